/- Proved here: what (impl.twins).moved answers for the tokens 0 and 1; no other condition. -/
import Derived.Test.YtogfijfhjdjhpaaF0
namespace Go.Proofs.Ytogfijfhjdjhpaa.Pr
open Go.RowKit Go.Proofs.YtogfijfhjdjhpaaW.PrintWords Go.Proofs.YtogfijfhjdjhpaaW.PrintLast Go.Proofs.YtogfijfhjdjhpaaW.PrintMore
set_option linter.unusedVariables false
set_option linter.unusedSimpArgs false

def impl_twins_moved.f (a0_0 : Int) (a0_1 : Int) (a0_2 : Int) (a0_3 : Int) (a1 : Int) (a2 : Int) : Option (Int × Int × Int × Int) := if a1 = 0 then some (a0_0, a0_1, wrap64 (a0_2 + a2), a0_3) else if a1 = 1 then some (a0_0, a0_1, a0_2, wrap64 (a0_3 + a2)) else none

set_option maxHeartbeats 8000000 in
set_option maxRecDepth 100000 in
theorem impl_twins_moved.calls (a0_0 : Int) (a0_1 : Int) (a0_2 : Int) (a0_3 : Int) (a1 : Int) (a2 : Int) (r1 : Int) (r2 : Int) (r3 : Int) (r4 : Int) (w : World) (h : impl_twins_moved.f a0_0 a0_1 a0_2 a0_3 a1 a2 = some (r1, r2, r3, r4)) :
    Calls Try.prog 42 #[.agg #[.int .i64 a0_0, .int .i64 a0_1, .int .i64 a0_2, .int .i64 a0_3], .int .i64 a1, .int .i64 a2] w fun e w' => e = .returned (.agg #[.int .i64 r1, .int .i64 r2, .int .i64 r3, .int .i64 r4]) ∧ Below w.heap.size w w' := by
  have hu1 := Try.underlying38
  have hu2 := Try.underlying36
  have HB := Aside0.mk (Below.refl w.heap.size w)
  unfold impl_twins_moved.f at h
  by_cases h0 : a1 = 0
  · rw [if_pos h0] at h
    subst h0
    simp only [Option.some.injEq, Prod.mk.injEq] at h
    obtain ⟨rfl, rfl, rfl, rfl⟩ := h
    go_enter Try.func42, Try.ntmps42
    go_wp2_with (first | ((with_reducible refine gate_dst (N := 3) rfl ?_); refine box_event ?hg (N := 3) ?hd (cs := #[.int .i64 a0_0, .int .i64 a0_1, .int .i64 a0_2, .int .i64 a0_3]) (t := 38) ?hr ?_; (case hd => rfl); (case hg => rfl); (case hr => first | (go_simp; done) | (go_simp; rfl)); intro gbBD hg w4 hbox hb; have n0_ := Aside0.mk (below_step belS hb); have n1_ := Aside0.mk (hbox); have n2_ := Aside0.mk (geS hg : w.heap.size ≤ gbBD); have n3_ := n2_; clear HB; revert n0_ n1_ n2_ n3_; intro HB BKBD GWBD GEBD; clear hb hbox hg) | ((with_reducible refine gate_dst (N := 6) rfl ?_); refine box_event ?hg (N := 6) ?hd (cs := #[.int .i64 0, .int .i64 0, .int .i64 0, .int .i64 0]) (t := 38) ?hr ?_; (case hd => rfl); (case hg => rfl); (case hr => first | (go_simp; done) | (go_simp; rfl)); intro gbBE hg w5 hbox hb; have n0_ := Aside0.mk (blk_below (blk_up BKBD.out) hb); have n1_ := Aside0.mk (below_step belS hb); have n2_ := Aside0.mk (hbox); have n3_ := Aside0.mk (geS hg : w.heap.size ≤ gbBE); have n4_ := n3_; have n5_ := Aside0.mk ((by rw [hg]; exact Nat.ne_of_lt (blk_lt (blk_up BKBD.out)) : gbBD ≠ gbBE)); have n6_ := Aside0.mk ((by rw [hg]; exact Nat.ne_of_gt (blk_lt (blk_up BKBD.out)) : gbBE ≠ gbBD)); clear BKBD HB; revert n0_ n1_ n2_ n3_ n4_ n5_ n6_; intro BKBD HB BKBE GWBE GEBE NBBD_BE NBBE_BD; clear hb hbox hg; have hnb6 := NBBD_BE.out; have hnc6 := NBBE_BD.out; obtain ⟨hcz7_0, hcz7_1, hcz7_2, hcz7_3, hfz7_0, hfz7_1, hfz7_2, hfz7_3⟩ := blk4 BKBD.out; obtain ⟨hcz8_0, hcz8_1, hcz8_2, hcz8_3, hfz8_0, hfz8_1, hfz8_2, hfz8_3⟩ := blk4 BKBE.out))
    refine bodyPost_ret (results_cell_row rfl _ _ gbBE 38 #[.int .i64 a0_0, .int .i64 a0_1, .int .i64 (wrap64 (a0_2 + a2)), .int .i64 a0_3] (0, 0) _ rfl (by (with_reducible repeat (first | refine blk_drewN ?_ _ | refine blk_drew ?_ | refine blk_alloc ?_ _)); refine blk_put (cs := #[.int .i64 a0_0, .int .i64 a0_1, .int .i64 (wrap64 (a0_2 + a2)), .int .i64 0]) ?_ 3 _ rfl; refine blk_put (cs := #[.int .i64 a0_0, .int .i64 a0_1, .int .i64 0, .int .i64 0]) ?_ 2 _ rfl; refine blk_put (cs := #[.int .i64 a0_0, .int .i64 0, .int .i64 0, .int .i64 0]) ?_ 1 _ rfl; refine blk_putU (cs := #[.int .i64 0, .int .i64 0, .int .i64 0, .int .i64 0]) ?_ 0 _ rfl; refine blk_farU ?_ NBBE_BD.out _; exact BKBE.out) Try.underlying38 rfl (by kernel_rfl)) rfl ?_
    exact ⟨by first | rfl | (simp [errW_none, errW_some] <;> rfl) | (simp [*, errW_none, errW_some] <;> rfl), by exact belS⟩
  · rw [if_neg h0] at h
    by_cases h1 : a1 = 1
    · rw [if_pos h1] at h
      clear h0
      subst h1
      simp only [Option.some.injEq, Prod.mk.injEq] at h
      obtain ⟨rfl, rfl, rfl, rfl⟩ := h
      go_enter Try.func42, Try.ntmps42
      go_wp2_with (first | ((with_reducible refine gate_dst (N := 3) rfl ?_); refine box_event ?hg (N := 3) ?hd (cs := #[.int .i64 a0_0, .int .i64 a0_1, .int .i64 a0_2, .int .i64 a0_3]) (t := 38) ?hr ?_; (case hd => rfl); (case hg => rfl); (case hr => first | (go_simp; done) | (go_simp; rfl)); intro gbBD hg w4 hbox hb; have n0_ := Aside0.mk (below_step belS hb); have n1_ := Aside0.mk (hbox); have n2_ := Aside0.mk (geS hg : w.heap.size ≤ gbBD); have n3_ := n2_; clear HB; revert n0_ n1_ n2_ n3_; intro HB BKBD GWBD GEBD; clear hb hbox hg) | ((with_reducible refine gate_dst (N := 6) rfl ?_); refine box_event ?hg (N := 6) ?hd (cs := #[.int .i64 0, .int .i64 0, .int .i64 0, .int .i64 0]) (t := 38) ?hr ?_; (case hd => rfl); (case hg => rfl); (case hr => first | (go_simp; done) | (go_simp; rfl)); intro gbBE hg w5 hbox hb; have n0_ := Aside0.mk (blk_below (blk_up BKBD.out) hb); have n1_ := Aside0.mk (below_step belS hb); have n2_ := Aside0.mk (hbox); have n3_ := Aside0.mk (geS hg : w.heap.size ≤ gbBE); have n4_ := n3_; have n5_ := Aside0.mk ((by rw [hg]; exact Nat.ne_of_lt (blk_lt (blk_up BKBD.out)) : gbBD ≠ gbBE)); have n6_ := Aside0.mk ((by rw [hg]; exact Nat.ne_of_gt (blk_lt (blk_up BKBD.out)) : gbBE ≠ gbBD)); clear BKBD HB; revert n0_ n1_ n2_ n3_ n4_ n5_ n6_; intro BKBD HB BKBE GWBE GEBE NBBD_BE NBBE_BD; clear hb hbox hg; have hnb6 := NBBD_BE.out; have hnc6 := NBBE_BD.out; obtain ⟨hcz7_0, hcz7_1, hcz7_2, hcz7_3, hfz7_0, hfz7_1, hfz7_2, hfz7_3⟩ := blk4 BKBD.out; obtain ⟨hcz8_0, hcz8_1, hcz8_2, hcz8_3, hfz8_0, hfz8_1, hfz8_2, hfz8_3⟩ := blk4 BKBE.out))
      refine bodyPost_ret (results_cell_row rfl _ _ gbBE 38 #[.int .i64 a0_0, .int .i64 a0_1, .int .i64 a0_2, .int .i64 (wrap64 (a0_3 + a2))] (0, 0) _ rfl (by (with_reducible repeat (first | refine blk_drewN ?_ _ | refine blk_drew ?_ | refine blk_alloc ?_ _)); refine blk_put (cs := #[.int .i64 a0_0, .int .i64 a0_1, .int .i64 a0_2, .int .i64 0]) ?_ 3 _ rfl; refine blk_put (cs := #[.int .i64 a0_0, .int .i64 a0_1, .int .i64 0, .int .i64 0]) ?_ 2 _ rfl; refine blk_put (cs := #[.int .i64 a0_0, .int .i64 0, .int .i64 0, .int .i64 0]) ?_ 1 _ rfl; refine blk_putU (cs := #[.int .i64 0, .int .i64 0, .int .i64 0, .int .i64 0]) ?_ 0 _ rfl; refine blk_farU ?_ NBBE_BD.out _; exact BKBE.out) Try.underlying38 rfl (by kernel_rfl)) rfl ?_
      exact ⟨by first | rfl | (simp [errW_none, errW_some] <;> rfl) | (simp [*, errW_none, errW_some] <;> rfl), by exact belS⟩
    · rw [if_neg h1] at h
      cases h

end Go.Proofs.Ytogfijfhjdjhpaa.Pr

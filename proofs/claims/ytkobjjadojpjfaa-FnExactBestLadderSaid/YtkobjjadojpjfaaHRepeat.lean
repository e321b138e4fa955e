/- Proved here: what slices.Repeat answers for a list of one whole number and a count from 1 to 101; the conditions are the reading facts of its slice. -/
import Derived.Test.YtkobjjadojpjfaaF0
import Derived.Test.YtkobjjadojpjfaaFBitsMul
import Derived.Laws.CopyOwn
import Derived.Deep.AppendLies
namespace Go.Proofs.Ytkobjjadojpjfaa.Pr
open Go.RowKit Go.Proofs.YtkobjjadojpjfaaW.PrintWords Go.Proofs.YtkobjjadojpjfaaW.PrintLast Go.Proofs.YtkobjjadojpjfaaW.PrintMore
set_option linter.unusedVariables false
set_option linter.unusedSimpArgs false

def slices_Repeat_int_int.f (l0 : List Int) (n : Int) : Option (List Int) :=
  match l0 with
  | [x] => if 1 ≤ n ∧ n ≤ 101 then some (List.replicate n.toNat x) else none
  | _ => none

theorem mul_one_nat : ∀ m : Nat, m < 102 → bits_Mul.f 1 (m : Int) = some (0, (m : Int)) := by decide +kernel

theorem wrap_small (m : Nat) (h : m < 102) : IntKind.u64.wrap (m : Int) = m := by
  have : ∀ m : Nat, m < 102 → IntKind.u64.wrap (m : Int) = m := by decide +kernel
  exact this m h

theorem wrap_small' (m : Nat) (h : m < 102) : IntKind.i64.wrap (m : Int) = m := by
  have : ∀ m : Nat, m < 102 → IntKind.i64.wrap (m : Int) = m := by decide +kernel
  exact this m h

theorem add_zero (ad : Addr) : ad.add 0 = ad := by unfold Addr.add; split <;> simp_all

theorem src_one {w : World} {ad : Addr} {v : Value} (h : w.cell? ad = some v) : ∀ (j : Nat) (u : Value), [v][j]? = some u → w.cell? (ad.add j) = some u
  | 0, u, hj => by obtain rfl := Option.some.inj hj; rw [add_zero ad]; exact h
  | j + 1, u, hj => by simp at hj

theorem cell_lt {w : World} {a : Addr} {v : Value} (h : w.cell? a = some v) : a.block < w.heap.size := by
  refine Decidable.byContradiction fun hn => ?_
  unfold World.cell? at h
  rw [Array.getElem?_eq_none (by omega)] at h
  simp at h

theorem src_row {w : World} {g q p : Nat} {L : List Value} {u : Value} {t : TypeId} (hh : w.heap[g]? = some (.cells L.toArray t (0, 0))) (hT : L.take q = List.replicate q u) (hp : p ≤ q) :
    ∀ (j : Nat) (v : Value), (List.replicate p u)[j]? = some v → w.cell? ((⟨g, 0, none⟩ : Addr).add j) = some v := fun j v hj => by
  have hjp : j < p := by
    refine Decidable.byContradiction fun hn => ?_
    rw [List.getElem?_eq_none (by rw [List.length_replicate]; omega)] at hj
    cases hj
  rw [List.getElem?_replicate, if_pos hjp] at hj
  refine World.news_of_block hh j v ?_
  have h2 : (L.take q)[j]? = some u := by rw [hT, List.getElem?_replicate, if_pos (by omega)]
  rw [List.getElem?_take, if_pos (by omega)] at h2
  rw [← hj]
  exact h2

theorem splice_take {L : List Value} {q p : Nat} {u : Value} (hT : L.take q = List.replicate q u) (hl : q ≤ L.length) : (splice L q (List.replicate p u)).take (q + p) = List.replicate (q + p) u := by
  unfold splice
  rw [hT, ← List.append_assoc, List.replicate_append_replicate]
  have e : (List.replicate (q + p) u).length = q + p := List.length_replicate
  rw [List.take_append_of_le_length (by omega), List.take_of_length_le (by omega)]

theorem own_parts {m : Nat} {w W w2 : World} {v : Value} {ok : Nat → Prop} {ad : Addr} {u : Value} (h1 : 1 ≤ m) (ho : Kd.R (Kd.int .i64) 3 w2 W.heap.size ok v (List.replicate (m : Int).toNat 0)) (hb : Below W.heap.size W w2) (HB : Below w.heap.size w W) (hx : W.cell? ad = some u) :
    ∃ (g cap : Nat) (L : List Value), v = .slice (some ⟨g, 0, none⟩) m cap ∧ L.length = cap ∧ m ≤ cap ∧ cap ≤ maxLen ∧ w.heap.size ≤ g ∧ Aside0 (w2.heap[g]? = some (.cells L.toArray 3 (0, 0))) ∧ Aside0 (Below w.heap.size w w2) ∧ Aside0 (w2.cell? ad = some u) := by
  rw [Int.toNat_natCast] at ho
  obtain ⟨-, ⟨_, h0⟩ | ⟨g, cap, cur, hv, hbg, hh, hnc, hcm, hcs, ht⟩⟩ := Kd.own_of_R ho
  · rw [List.length_replicate] at h0; omega
  · rw [List.length_replicate] at hv hnc
    refine ⟨g, cap, cur.toList, hv, by rw [Array.length_toList, hcs, Nat.mul_one], hnc, hcm, Nat.le_trans HB.size hbg, ⟨hh⟩, ⟨HB.trans (hb.mono HB.size)⟩, ⟨?_⟩⟩
    exact (World.cell?_of_block (hb.block ad.block (cell_lt hx))).trans hx

set_option maxHeartbeats 4000000 in
set_option maxRecDepth 100000 in
theorem repeat_one (A0 : Option Addr) (c0 : Nat) (x : Int) (m : Nat) (h1 : 1 ≤ m) (hm : m ≤ 101) (w : World) (hr0 : Kd.C (Kd.int .i64) w A0 1 [x]) (hc0 : 1 ≤ c0) :
    Calls Try.prog 194 #[.slice A0 1 c0, .int .i64 m] w fun e w' => ∃ v0_ : Value, e = .returned (v0_) ∧ Kd.R (Kd.int .i64) 3 w' w.heap.size (fun _ => True) v0_ (List.replicate m x) ∧ Below w.heap.size w w' := by
  have HR := Aside0.mk hr0
  have HB := Aside0.mk (Below.refl w.heap.size w)
  clear hr0
  have hmul := fun W => Aside0.mk (bits_Mul.calls 1 m 0 m W (mul_one_nat m (by omega)))
  have hw := wrap_small m (by omega)
  have hn0 : ¬ ((m : Int) < 0) := by omega
  have hn1 : decide ((m : Int) < 0) = false := decide_eq_false hn0
  have hn2 : decide ((m : Int) > 9223372036854775807) = false := decide_eq_false (by omega)
  have hn3 : decide ((9223372036854775807 : Int) < (m : Int)) = false := decide_eq_false (by omega)
  have hi64 := wrap_small' m (by omega)
  go_enter Try.func194, Try.ntmps194
  go_wp2_with fail
  refine (hmul _).out.mono ?_
  rintro e w1 ⟨rfl, hd1⟩
  have HB1 := Aside0.mk (HB.out.trans (hd1.below.mono HB.out.size))
  clear HB hd1
  have hI3 : (Try.prog.info? 3).map (·.size) = some 1 := by kernel_rfl
  obtain ⟨ad, rfl, hx0⟩ := Kd.at_int (Kd.C_below HR.out HB1.out) 0 (by omega) (by omega)
  have hx1 : w1.cell? ad = some (.int .i64 x) := by
    have e : ad.add (0 : Int).toNat = ad := by unfold Addr.add; split <;> simp_all
    rw [e] at hx0
    exact hx0
  clear hx0
  have HXC := Aside0.mk hx1
  clear hx1
  go_wp2_with (first | ((with_reducible refine gate_dst (N := 30) rfl ?_); refine Kd.R_make (Kd.int .i64) _ 3 rfl (N := 30) rfl 58 _ _ rfl (m : Int) rfl rfl Try.underlying58 (.int .i64 0) 8 info3 rfl (by decide) (by omega) 0 (ok := fun _ => True) (okp := fun _ => True) rfl (fun _ hk => hk) trivial (by omega) (by omega) (Below.refl _ _) (Nat.le_refl _) ?_; intro v1 w2 ho hb hg_ hnew_; clear hg_ hnew_; obtain ⟨g, cap, L, rfl, hL, hnc, hcm, hgw, HH, HB2, HX2⟩ := own_parts h1 ho hb HB1.out HXC.out; clear hb ho) | ((with_reducible refine gate_builtin (b := .copy) (xs := #[.tmp 31, .tmp 32]) rfl ?_); go_loud (refine wpList_copy_splice (by rfl) (.tmp 31) (.tmp 32) 58 58 (by rfl) 3 Try.underlying58 hI3 _ _ _ _ _ _ (by rfl) (by rfl) g 0 L 3 HH.out [.int .i64 x] (Nat.min_eq_left h1).symm (fun _ => ⟨rfl, ad, rfl, src_one HX2.out⟩) (show 0 + 1 ≤ L.length by omega) (by intro v hv; obtain rfl := List.mem_singleton.mp hv; rfl) w.heap.size w HB2.out hgw ?_); intro w3 HG3 hB3; have HB3 := Aside0.mk hB3; clear hB3))
  have hL1 : (splice L 0 [Value.int .i64 x]).length = cap := by rw [length_splice _ _ _ (show 0 + 1 ≤ L.length by omega)]; exact hL
  have hT1 : (splice L 0 [Value.int .i64 x]).take 1 = List.replicate 1 (Value.int .i64 x) := rfl
  generalize splice L 0 [Value.int .i64 x] = L3 at *
  clear HH HX2 HB2 hn1 hn2 hn3 hmul hw hi64 HXC HB1 HR hL
  go_loopg [8] m (fun gg s8 wr => ∃ (q : Nat) (L : List Value), s8 = .int .i64 q ∧ 1 ≤ q ∧ q ≤ m ∧ m - q ≤ gg ∧ L.length = cap ∧ L.take q = List.replicate q (Value.int .i64 x) ∧ Aside0 (wr.heap[g]? = some (.cells L.toArray 3 (0, 0))) ∧ Aside0 (Below w.heap.size w wr))
  case atStart => exact ⟨1, L3, rfl, by omega, by omega, by omega, hL1, hT1, ⟨HG3.out⟩, HB3⟩
  case round =>
    obtain ⟨q, L, rfl, q1, q2, hg, hL, hT, HH, HB⟩ := hrel
    by_cases hlt : q < m
    · have hltz : (q : Int) < (m : Int) := by omega
      have hltd : decide ((q : Int) < (m : Int)) = true := decide_eq_true hltz
      have z1 : (0 : Int) ≤ (q : Int) := by omega
      have z2 : (q : Int) ≤ (m : Int) := by omega
      have z3 : (q : Int) ≤ (cap : Int) := by omega
      have z4 : (m : Int) ≤ (cap : Int) := by omega
      obtain ⟨p, hp⟩ : ∃ p : Nat, p = min q (m - q) := ⟨_, rfl⟩
      go_wp2_with fail
      have hcq : ¬ cap = q := by omega
      have hpq : p ≤ q := by omega
      have hp1 : 1 ≤ p := by omega
      have hp2 : q + p ≤ m := by omega
      have hfit := Aside0.mk (show q + (List.replicate p (Value.int .i64 x)).length ≤ L.length by rw [List.length_replicate]; omega)
      have hmin := Aside0.mk (show (List.replicate p (Value.int .i64 x)).length = Nat.min q (m - q) by rw [List.length_replicate, hp])
      have hone := Aside0.mk (show ∀ v ∈ List.replicate p (Value.int .i64 x), v.oneCell' = true from fun v hv => by rw [(List.mem_replicate.mp hv).2]; rfl)
      have hsrc := Aside0.mk (src_row HH.out hT hpq)
      have HT := Aside0.mk hT
      have hwq := Aside0.mk (show IntKind.i64.wrap ((q : Int) + (p : Int)) = ((q + p : Nat) : Int) by rw [← Int.natCast_add]; exact wrap_small' (q + p) (by omega))
      have hqL := Aside0.mk (show q ≤ L.length by omega)
      clear hp hT
      go_region_law ((refine step_copy_splice (by rfl) (.tmp 41) (.tmp 44) 58 58 (by rfl) 3 Try.underlying58 hI3 _ _ _ _ _ _ (by rfl) (by rfl) g q L 3 HH.out (List.replicate p (Value.int .i64 x)) hmin.out (fun _ => ⟨rfl, ⟨g, 0, none⟩, rfl, hsrc.out⟩) hfit.out hone.out w.heap.size w (below_drew1 HB.out) hgw ?_); intro w4 HG4 HB4)
      all_goals
        go_wp2_with fail
        go_roundg (m - (q + p))
        case measure => omega
        case rel =>
          refine ⟨q + p, splice L q (List.replicate p (Value.int .i64 x)), ?_, by omega, by omega, by omega, ?_, ?_, ⟨HG4.out⟩, ⟨HB4⟩⟩
          · (try simp only [List.length_replicate]); exact congrArg (Value.int .i64) hwq.out
          · rw [length_splice _ _ _ hfit.out]; exact hL
          · exact splice_take HT.out hqL.out
    · have hq : q = m := by omega
      subst hq
      have hltz : ¬ (q : Int) < (q : Int) := by omega
      go_wp2_with fail
      go_ret
      refine ⟨_, rfl, Kd.R_of_own ?_ (fun _ _ => trivial), HB.out⟩
      rw [List.length_replicate]
      refine ⟨by rw [encs_length, List.length_replicate, Nat.mul_one], .inr ⟨g, cap, L.toArray, rfl, hgw, HH.out, hnc, hcm, by simpa using hL, ?_⟩⟩
      rw [Nat.mul_one]
      show L.take q = _
      rw [hT]
      simp [encs]

theorem slices_Repeat_int_int.calls (A0 : Option Addr) (c0 : Nat) (l0 : List Int) (n : Int) (r : List Int) (w : World) (hr0 : Kd.C (Kd.int .i64) w A0 l0.length l0) (hc0 : l0.length ≤ c0) (h : slices_Repeat_int_int.f l0 n = some r) :
    Calls Try.prog 194 #[.slice A0 l0.length c0, .int .i64 n] w fun e w' => ∃ v0_ : Value, e = .returned (v0_) ∧ Kd.R (Kd.int .i64) 3 w' w.heap.size (fun _ => True) v0_ r ∧ Below w.heap.size w w' := by
  unfold slices_Repeat_int_int.f at h
  match l0, hr0, hc0, h with
  | [x], hr0, hc0, h =>
    have h : (if 1 ≤ n ∧ n ≤ 101 then some (List.replicate n.toNat x) else none) = some r := h
    by_cases hn : 1 ≤ n ∧ n ≤ 101
    · rw [if_pos hn] at h
      obtain rfl := Option.some.inj h
      obtain ⟨m, rfl⟩ := Int.eq_ofNat_of_zero_le (show 0 ≤ n by omega)
      exact repeat_one A0 c0 x m (by omega) (by omega) w hr0 hc0
    · rw [if_neg hn] at h
      cases h

end Go.Proofs.Ytkobjjadojpjfaa.Pr

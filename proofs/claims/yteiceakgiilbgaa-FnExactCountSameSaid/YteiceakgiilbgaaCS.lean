/- Proved here: what the reference's count of throws with no face too often is, row by row; the conditions are the dice's bounds. -/
import Derived.Test.YteiceakgiilbgaaFSpecCountSame
import Derived.Test.YteiceakgiilbgaaFSpecDiMost
import Derived.Test.YteiceakgiilbgaaFSpecDiChoose
namespace Go.Proofs.Yteiceakgiilbgaa.Pure
open Go.RowKit Go.Proofs.Yteiceakgiilbgaa.Pr Go.Proofs.YteiceakgiilbgaaW.PrintWords Go.Proofs.YteiceakgiilbgaaW.PrintLast
set_option linter.unusedSimpArgs false
set_option linter.unusedVariables false

theorem w64 (x : Int) (h1 : -9223372036854775808 ≤ x) (h2 : x ≤ 9223372036854775807) : wrap64 x = x := by unfold wrap64; omega

def chL (n x : Int) : Nat → Int → Int → Int
  | 0, o, i => o
  | s + 1, o, i => chL n x s (wrap64 (Int.tdiv (wrap64 (o * (wrap64 ((wrap64 (n - x)) + i)))) i)) (i + 1)

theorem choose_l0 (n x : Int) (hx : x ≤ 1000) : ∀ (s k : Nat) (o i : Int), s < k → i + s = x + 1 → 1 ≤ i → spec_diChoose.l0 k n x o i = some (chL n x s o i)
  | 0, k, o, i, h1, h2, h3 => by
    obtain ⟨k, rfl⟩ : ∃ m, k = m + 1 := ⟨k - 1, by omega⟩
    simp only [spec_diChoose.l0]
    rw [if_neg (by omega)]
    rfl
  | s + 1, k, o, i, h1, h2, h3 => by
    obtain ⟨k, rfl⟩ : ∃ m, k = m + 1 := ⟨k - 1, by omega⟩
    simp only [spec_diChoose.l0]
    rw [if_pos (by omega), if_neg (by omega), w64 (i + 1) (by omega) (by omega), choose_l0 n x hx s k _ (i + 1) (by omega) (by omega) (by omega)]
    rfl

def chT (n i : Nat) : Int := chL n i i 1 1

theorem choose_eq (n i k : Nat) (hi : i ≤ 8) (hk : 20 ≤ k) : spec_diChoose.f k (n : Int) (i : Int) = some (chT n i) :=
  choose_l0 n i (by omega) i k 1 1 (by omega) (by omega) (by omega)

def lm (row : List Int) (d : Nat) : Nat → Nat → Int → Int
  | 0, i, x => x
  | s + 1, i, x => lm row d s (i + 1) (wrap64 (x + wrap64 (chT d i * rd row ((d - i : Nat) : Int))))

def tabS : List (List (List Int)) :=
  [[[1, 0, 0, 0, 0, 0, 0, 0, 0], [1, 0, 0, 0, 0, 0, 0, 0, 0], [1, 0, 0, 0, 0, 0, 0, 0, 0], [1, 0, 0, 0, 0, 0, 0, 0, 0], [1, 0, 0, 0, 0, 0, 0, 0, 0], [1, 0, 0, 0, 0, 0, 0, 0, 0], [1, 0, 0, 0, 0, 0, 0, 0, 0], [1, 0, 0, 0, 0, 0, 0, 0, 0], [1, 0, 0, 0, 0, 0, 0, 0, 0], [1, 0, 0, 0, 0, 0, 0, 0, 0], [1, 0, 0, 0, 0, 0, 0, 0, 0], [1, 0, 0, 0, 0, 0, 0, 0, 0], [1, 0, 0, 0, 0, 0, 0, 0, 0]],
   [[1, 0, 0, 0, 0, 0, 0, 0, 0], [1, 1, 0, 0, 0, 0, 0, 0, 0], [1, 2, 2, 0, 0, 0, 0, 0, 0], [1, 3, 6, 6, 0, 0, 0, 0, 0], [1, 4, 12, 24, 24, 0, 0, 0, 0], [1, 5, 20, 60, 120, 120, 0, 0, 0], [1, 6, 30, 120, 360, 720, 720, 0, 0], [1, 7, 42, 210, 840, 2520, 5040, 5040, 0], [1, 8, 56, 336, 1680, 6720, 20160, 40320, 40320], [1, 9, 72, 504, 3024, 15120, 60480, 181440, 362880], [1, 10, 90, 720, 5040, 30240, 151200, 604800, 1814400], [1, 11, 110, 990, 7920, 55440, 332640, 1663200, 6652800], [1, 12, 132, 1320, 11880, 95040, 665280, 3991680, 19958400]],
   [[1, 0, 0, 0, 0, 0, 0, 0, 0], [1, 1, 1, 0, 0, 0, 0, 0, 0], [1, 2, 4, 6, 6, 0, 0, 0, 0], [1, 3, 9, 24, 54, 90, 90, 0, 0], [1, 4, 16, 60, 204, 600, 1440, 2520, 2520], [1, 5, 25, 120, 540, 2220, 8100, 25200, 63000], [1, 6, 36, 210, 1170, 6120, 29520, 128520, 491400], [1, 7, 49, 336, 2226, 14070, 83790, 463680, 2346120], [1, 8, 64, 504, 3864, 28560, 201600, 1345680, 8401680], [1, 9, 81, 720, 6264, 52920, 430920, 3356640, 24811920], [1, 10, 100, 990, 9630, 91440, 842400, 7484400, 63730800], [1, 11, 121, 1320, 14190, 149490, 1535490, 15301440, 147193200], [1, 12, 144, 1716, 20196, 233640, 2645280, 29189160, 312598440]],
   [[1, 0, 0, 0, 0, 0, 0, 0, 0], [1, 1, 1, 1, 0, 0, 0, 0, 0], [1, 2, 4, 8, 14, 20, 20, 0, 0], [1, 3, 9, 27, 78, 210, 510, 1050, 1680], [1, 4, 16, 64, 252, 960, 3480, 11760, 36120], [1, 5, 25, 125, 620, 3020, 14300, 65100, 281400], [1, 6, 36, 216, 1290, 7620, 44220, 250320, 1371720], [1, 7, 49, 343, 2394, 16590, 113610, 765030, 5039160], [1, 8, 64, 512, 4088, 32480, 255920, 1992480, 15269520], [1, 9, 81, 729, 6552, 58680, 522360, 4609080, 40194000], [1, 10, 100, 1000, 9990, 99540, 987300, 9727200, 94978800], [1, 11, 121, 1331, 14630, 160490, 1754390, 19078290, 206015040], [1, 12, 144, 1728, 20724, 248160, 2963400, 35241360, 416751720]],
   [[1, 0, 0, 0, 0, 0, 0, 0, 0], [1, 1, 1, 1, 1, 0, 0, 0, 0], [1, 2, 4, 8, 16, 30, 50, 70, 70], [1, 3, 9, 27, 81, 240, 690, 1890, 4830], [1, 4, 16, 64, 256, 1020, 4020, 15540, 58380], [1, 5, 25, 125, 625, 3120, 15500, 76300, 370300], [1, 6, 36, 216, 1296, 7770, 46470, 276570, 1633170], [1, 7, 49, 343, 2401, 16800, 117390, 817950, 5672730], [1, 8, 64, 512, 4096, 32760, 261800, 2088520, 16612120], [1, 9, 81, 729, 6561, 59040, 531000, 4770360, 42771960], [1, 10, 100, 1000, 10000, 99990, 999450, 9982350, 99568350], [1, 11, 121, 1331, 14641, 161040, 1770890, 19463290, 213711190], [1, 12, 144, 1728, 20736, 248820, 2985180, 35800380, 429045540]],
   [[1, 0, 0, 0, 0, 0, 0, 0, 0], [1, 1, 1, 1, 1, 1, 0, 0, 0], [1, 2, 4, 8, 16, 32, 62, 112, 182], [1, 3, 9, 27, 81, 243, 726, 2142, 6174], [1, 4, 16, 64, 256, 1024, 4092, 16296, 64428], [1, 5, 25, 125, 625, 3125, 15620, 77980, 388220], [1, 6, 36, 216, 1296, 7776, 46650, 279720, 1675170], [1, 7, 49, 343, 2401, 16807, 117642, 823242, 5757402], [1, 8, 64, 512, 4096, 32768, 262136, 2096752, 16765784], [1, 9, 81, 729, 6561, 59049, 531432, 4782456, 43030008], [1, 10, 100, 1000, 10000, 100000, 999990, 9999360, 99976590], [1, 11, 121, 1331, 14641, 161051, 1771550, 19486390, 214327190], [1, 12, 144, 1728, 20736, 248832, 2985972, 35830872, 429939972]],
   [[1, 0, 0, 0, 0, 0, 0, 0, 0], [1, 1, 1, 1, 1, 1, 1, 0, 0], [1, 2, 4, 8, 16, 32, 64, 126, 238], [1, 3, 9, 27, 81, 243, 729, 2184, 6510], [1, 4, 16, 64, 256, 1024, 4096, 16380, 65436], [1, 5, 25, 125, 625, 3125, 15625, 78120, 390460], [1, 6, 36, 216, 1296, 7776, 46656, 279930, 1679370], [1, 7, 49, 343, 2401, 16807, 117649, 823536, 5764458], [1, 8, 64, 512, 4096, 32768, 262144, 2097144, 16776760], [1, 9, 81, 729, 6561, 59049, 531441, 4782960, 43046136], [1, 10, 100, 1000, 10000, 100000, 1000000, 9999990, 99999270], [1, 11, 121, 1331, 14641, 161051, 1771561, 19487160, 214357990], [1, 12, 144, 1728, 20736, 248832, 2985984, 35831796, 429980628]],
   [[1, 0, 0, 0, 0, 0, 0, 0, 0], [1, 1, 1, 1, 1, 1, 1, 1, 0], [1, 2, 4, 8, 16, 32, 64, 128, 254], [1, 3, 9, 27, 81, 243, 729, 2187, 6558], [1, 4, 16, 64, 256, 1024, 4096, 16384, 65532], [1, 5, 25, 125, 625, 3125, 15625, 78125, 390620], [1, 6, 36, 216, 1296, 7776, 46656, 279936, 1679610], [1, 7, 49, 343, 2401, 16807, 117649, 823543, 5764794], [1, 8, 64, 512, 4096, 32768, 262144, 2097152, 16777208], [1, 9, 81, 729, 6561, 59049, 531441, 4782969, 43046712], [1, 10, 100, 1000, 10000, 100000, 1000000, 10000000, 99999990], [1, 11, 121, 1331, 14641, 161051, 1771561, 19487171, 214358870], [1, 12, 144, 1728, 20736, 248832, 2985984, 35831808, 429981684]],
   [[1, 0, 0, 0, 0, 0, 0, 0, 0], [1, 1, 1, 1, 1, 1, 1, 1, 1], [1, 2, 4, 8, 16, 32, 64, 128, 256], [1, 3, 9, 27, 81, 243, 729, 2187, 6561], [1, 4, 16, 64, 256, 1024, 4096, 16384, 65536], [1, 5, 25, 125, 625, 3125, 15625, 78125, 390625], [1, 6, 36, 216, 1296, 7776, 46656, 279936, 1679616], [1, 7, 49, 343, 2401, 16807, 117649, 823543, 5764801], [1, 8, 64, 512, 4096, 32768, 262144, 2097152, 16777216], [1, 9, 81, 729, 6561, 59049, 531441, 4782969, 43046721], [1, 10, 100, 1000, 10000, 100000, 1000000, 10000000, 100000000], [1, 11, 121, 1331, 14641, 161051, 1771561, 19487171, 214358881], [1, 12, 144, 1728, 20736, 248832, 2985984, 35831808, 429981696]]]

def MR (m F : Nat) : List Int := (tabS.getD m []).getD F []

theorem MR_zero (m d : Nat) (hm : m ≤ 8) (hd : d ≤ 8) : rd (MR m 0) (d : Int) = if d = 0 then 1 else 0 := by
  have : ∀ m : Fin 9, ∀ d : Fin 9, rd (MR m.val 0) (d.val : Int) = if d.val = 0 then 1 else 0 := by decide +kernel
  exact this ⟨m, by omega⟩ ⟨d, by omega⟩

theorem MR_succ (m F d : Nat) (hm : m ≤ 8) (hF : F ≤ 11) (hd : d ≤ 8) : rd (MR m (F + 1)) (d : Int) = lm (MR m F) d (min m d + 1) 0 0 := by
  have : ∀ m : Fin 9, ∀ F : Fin 12, ∀ d : Fin 9, rd (MR m.val (F.val + 1)) (d.val : Int) = lm (MR m.val F.val) d.val (min m.val d.val + 1) 0 0 := by decide +kernel
  exact this ⟨m, by omega⟩ ⟨F, by omega⟩ ⟨d, by omega⟩

theorem most_l0 (m F d : Nat) (hm : m ≤ 8) (hd : d ≤ 8) (hF : F ≤ 12) (K : Nat) (ih : ∀ (d' k : Nat), d' ≤ 8 → K ≤ k → spec_diMost.f k (d' : Int) (F : Int) (m : Int) = some (rd (MR m F) (d' : Int))) :
    ∀ (s i k : Nat) (x : Int), i + s = min m d + 1 → K + 3 * s + 30 ≤ k → spec_diMost.l0 k (d : Int) ((F + 1 : Nat) : Int) (m : Int) x (i : Int) = some (lm (MR m F) d s i x)
  | 0, i, k, x, h1, h2 => by
    obtain ⟨k, rfl⟩ : ∃ m, k = m + 1 + 1 := ⟨k - 2, by omega⟩
    simp only [spec_diMost.l0]
    by_cases h : (i : Int) ≤ (m : Int)
    · rw [if_pos h, decide_eq_false (by omega)]
      simp only [spec_diMost.j1]
      rfl
    · rw [if_neg h]
      simp only [spec_diMost.j1]
      rfl
  | s + 1, i, k, x, h1, h2 => by
    obtain ⟨k, rfl⟩ : ∃ m, k = m + 1 + 1 := ⟨k - 2, by omega⟩
    simp only [spec_diMost.l0]
    rw [if_pos (by omega), decide_eq_true (by omega)]
    simp only [spec_diMost.j1]
    rw [if_pos trivial, choose_eq d i k (by omega) (by omega), w64 ((d : Int) - (i : Int)) (by omega) (by omega), w64 (((F + 1 : Nat) : Int) - 1) (by omega) (by omega), show ((d : Int) - (i : Int)) = ((d - i : Nat) : Int) by omega, show ((F + 1 : Nat) : Int) - 1 = (F : Int) by omega]
    simp only [Option.bind_some]
    rw [ih (d - i) k (by omega) (by omega)]
    simp only [Option.bind_some]
    rw [w64 ((i : Int) + 1) (by omega) (by omega), show ((i : Int) + 1) = ((i + 1 : Nat) : Int) by omega, most_l0 m F d hm hd hF K ih s (i + 1) k _ (by omega) (by omega)]
    rfl

theorem most_eq (m : Nat) (hm : m ≤ 8) : ∀ (F d k : Nat), F ≤ 12 → d ≤ 8 → 100 * F + 10 ≤ k → spec_diMost.f k (d : Int) (F : Int) (m : Int) = some (rd (MR m F) (d : Int))
  | 0, d, k, hF, hd, hk => by
    obtain ⟨k, rfl⟩ : ∃ m, k = m + 1 := ⟨k - 1, by omega⟩
    simp only [spec_diMost.f]
    rw [if_pos (by omega), MR_zero m d hm hd]
    by_cases h : d = 0
    · rw [if_pos (by omega), if_pos h]
    · rw [if_neg (by omega), if_neg h]
  | F + 1, d, k, hF, hd, hk => by
    obtain ⟨k, rfl⟩ : ∃ m, k = m + 1 := ⟨k - 1, by omega⟩
    simp only [spec_diMost.f]
    rw [if_neg (by omega), MR_succ m F d hm (by omega) hd]
    have := most_l0 m F d hm hd (by omega) (100 * F + 10) (fun d' k h1 h2 => most_eq m hm F d' k (by omega) h1 h2) (min m d + 1) 0 k 0 (by omega) (by omega)
    exact this

end Go.Proofs.Yteiceakgiilbgaa.Pure

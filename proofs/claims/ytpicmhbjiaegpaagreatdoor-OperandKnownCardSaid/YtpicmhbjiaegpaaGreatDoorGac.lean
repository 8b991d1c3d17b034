/-
  DERIVED. Several texts in one: KDivNum, KRefH, KRefI, Rcd, Byt, Fld, OpdD, RegionB, KRefJ, RdA.
-/
import Derived.Test.YtpicmhbjiaegpaaGreatDoorGab
import Derived.Test.YtpicmhbjiaegpaaGreatDoorGaa
import Derived.Deep.AppendLies
import Derived.Deep.MidRow
import Derived.Lib.UnsafeStr
import Derived.Laws.IdiomStrings
import Derived.Lib.FieldsP
import Derived.Lib.Split
import Derived.Lib.SpaceUEq
import Derived.WalkKit
import Derived.OrdersHeld
import Derived.StillTail
namespace Go.Proofs.YtpicmhbjiaegpaaGreatDoor

theorem val_take_all (l : List Int) {k : Nat} (h : l.length ≤ k) : val (l.take k) = val l := by rw [List.take_of_length_le h]

theorem lt_of_pow_mul_lt {a b p : Int} (hp : 0 < p) (h : a * p < b * p) : a < b := Int.lt_of_mul_lt_mul_right h (by omega)

/-- how often, by the highest digits -/
theorem often {x y m : Nat} (_ : 0 < y) (hm : m + 1 = (digs y).length) (hxy : x < y * 1000000000) (hle : y ≤ x) {hi top bt : Int}
    (h1 : (digs x).getD (m + 1) 0 = hi) (h2 : (digs x).getD m 0 = top) (h3 : (digs y).getD m 0 = bt) {k : Int} (hk : k = if (hi * 1000000000 + top) / (bt + 1) = 0 then 1 else (hi * 1000000000 + top) / (bt + 1)) :
    1 ≤ k ∧ k < 1000000000 ∧ k * y ≤ x ∧ 0 ≤ hi ∧ hi < 1000000000 ∧ 0 ≤ top ∧ top < 1000000000 ∧ 0 ≤ bt ∧ bt < 1000000000 := by
  have d1 := (dig_digs x).all (m + 1)
  have d2 := (dig_digs x).all m
  have d3 := (dig_digs y).all m
  rw [h1] at d1; rw [h2] at d2; rw [h3] at d3
  have hlx : (digs x).length ≤ m + 2 := by
    refine length_digs_le ?_
    have := digs_lt y
    rw [← hm] at this
    calc x < y * 1000000000 := hxy
      _ ≤ 1000000000 ^ (m + 1) * 1000000000 := Nat.mul_le_mul_right _ (by omega)
      _ = 1000000000 ^ (m + 2) := (Nat.pow_succ ..).symm
  have ex : (x : Int) = val ((digs x).take m) + (top + hi * 1000000000) * 1000000000 ^ m := by
    rw [← val_digs x, ← val_take_all (digs x) hlx, val_take_next, val_take_next, h1, h2, Int.pow_succ, Int.add_mul]
    rw [show hi * (1000000000 ^ m * 1000000000) = hi * 1000000000 * 1000000000 ^ m by rw [Int.mul_comm (1000000000 ^ m), Int.mul_assoc]]
    rw [Int.add_assoc]
  have ey : (y : Int) = val ((digs y).take m) + bt * 1000000000 ^ m := by
    rw [← val_digs y, ← val_take_all (digs y) (k := m + 1) (by omega), val_take_next, h3]
  have px : 0 ≤ val ((digs x).take m) := val_nonneg ((dig_digs x).take m)
  have py : val ((digs y).take m) < 1000000000 ^ m := by
    have := val_lt ((dig_digs y).take m)
    rw [List.length_take, Nat.min_eq_left (by omega)] at this
    exact this
  have hp : (0 : Int) < 1000000000 ^ m := Int.pow_pos (by decide)
  generalize hP : (1000000000 : Int) ^ m = p at *
  have hyb : (y : Int) < (bt + 1) * p := by rw [Int.add_mul]; omega
  have hA : (hi * 1000000000 + top) * p ≤ x := by rw [Int.add_comm (hi * 1000000000)]; omega
  have hT : hi * 1000000000 + top < (bt + 1) * 1000000000 := by
    refine lt_of_pow_mul_lt hp ?_
    have : (x : Int) < y * 1000000000 := by omega
    have h4 : (y : Int) * 1000000000 ≤ (bt + 1) * p * 1000000000 := Int.mul_le_mul_of_nonneg_right (by omega) (by decide)
    rw [Int.mul_assoc, Int.mul_comm p, ← Int.mul_assoc] at h4
    omega
  generalize hu : hi * 1000000000 + top = u at *
  have hu0 : 0 ≤ u := by omega
  have hq0 : 0 ≤ u / (bt + 1) := Int.ediv_nonneg hu0 (by omega)
  have hq1 : u / (bt + 1) < 1000000000 := by
    refine Int.ediv_lt_of_lt_mul (by omega) ?_
    rw [Int.mul_comm]; exact hT
  have hq2 : u / (bt + 1) * (bt + 1) ≤ u := Int.ediv_mul_le _ (by omega)
  refine ⟨?_, ?_, ?_, d1.1, d1.2, d2.1, d2.2, d3.1, d3.2⟩
  · rw [hk]; split <;> omega
  · rw [hk]; split <;> omega
  · rw [hk]; split
    · omega
    · have h5 : u / (bt + 1) * (y : Int) ≤ u / (bt + 1) * ((bt + 1) * p) := Int.mul_le_mul_of_nonneg_left (by omega) hq0
      rw [← Int.mul_assoc] at h5
      have h6 : u / (bt + 1) * (bt + 1) * p ≤ u * p := Int.mul_le_mul_of_nonneg_right hq2 (by omega)
      omega

/-- ahead of round i of taking k times ys from rs -/
def D1 (rs ys : List Int) (k : Int) (i : Nat) (cr : Int) (out : List Int) : Prop :=
  out.length = rs.length ∧ Dig out ∧ (∀ j, i ≤ j → out.getD j 0 = rs.getD j 0) ∧ val (out.take i) + cr * 1000000000 ^ i = val (rs.take i) - k * val (ys.take i) ∧ -1000000000 ≤ cr ∧ cr ≤ 0

theorem D1.start {rs ys : List Int} {k : Int} (h : Dig rs) : D1 rs ys k 0 0 rs := ⟨rfl, h, fun _ _ => rfl, by simp [val], by omega, by omega⟩

theorem mul_bd2 {x k : Int} (hx : 0 ≤ x ∧ x < 1000000000) (hk : 0 ≤ k ∧ k < 1000000000) : 0 ≤ x * k ∧ x * k ≤ 999999998000000001 := mul_bounds hx hk

theorem D1.step {rs ys out : List Int} {k cr : Int} {i : Nat} (h : D1 rs ys k i cr out) (hy : Dig ys) (hk0 : 0 ≤ k) (hk1 : k < 1000000000) (hi : i < rs.length) :
    D1 rs ys k (i + 1) ((rs.getD i 0 - ys.getD i 0 * k + cr) / 1000000000) (out.set i ((rs.getD i 0 - ys.getD i 0 * k + cr) % 1000000000)) := by
  obtain ⟨h1, h2, h3, h4, h5, h6⟩ := h
  have a := h2.all i
  rw [h3 i (Nat.le_refl _)] at a
  have b := mul_bd2 (hy.all i) ⟨hk0, hk1⟩
  refine ⟨by simpa using h1, fun j _ => ?_, fun j hj => ?_, ?_, by omega, by omega⟩
  · rw [getD_set]; split
    · omega
    · exact h2.all j
  · rw [getD_set, if_neg (by omega)]; exact h3 j (by omega)
  · rw [val_take_next, val_take_next, val_take_next, getD_set, if_pos ⟨rfl, by omega⟩, List.take_set_of_le (Nat.le_refl _)]
    generalize rs.getD i 0 = d at *
    generalize ys.getD i 0 = y at *
    generalize val (out.take i) = vo at *
    generalize val (rs.take i) = vr at *
    generalize val (ys.take i) = vy at *
    rw [Int.pow_succ]
    generalize (1000000000 : Int) ^ i = p at *
    have e : (d - y * k + cr) % 1000000000 * p + (d - y * k + cr) / 1000000000 * (p * 1000000000) = (d - y * k + cr) * p := by
      rw [Int.mul_comm p 1000000000, ← Int.mul_assoc, ← Int.add_mul]
      congr 1
      omega
    have e2 : (d - y * k + cr) * p = d * p - k * (y * p) + cr * p := by
      rw [Int.add_mul, Int.sub_mul, Int.mul_comm y k, Int.mul_assoc]
    have e3 : k * (vy + y * p) = k * vy + k * (y * p) := Int.mul_add _ _ _
    omega

theorem D1.done {rs ys out : List Int} {k cr : Int} (h : D1 rs ys k rs.length cr out) (hl : ys.length ≤ rs.length) (hle : k * val ys ≤ val rs) : Dig out ∧ val out = val rs - k * val ys := by
  obtain ⟨h1, h2, h3, h4, h5, h6⟩ := h
  rw [← h1, List.take_length, h1, List.take_length, val_take_all ys hl] at h4
  refine ⟨h2, ?_⟩
  have hlt := val_lt h2
  rw [h1] at hlt
  have hp : (0 : Int) < 1000000000 ^ rs.length := Int.pow_pos (by decide)
  generalize (1000000000 : Int) ^ rs.length = p at *
  have : cr = 0 := by
    apply Decidable.byContradiction
    intro hc
    have : cr * p ≤ -1 * p := Int.mul_le_mul_of_nonneg_right (by omega) (by omega)
    omega
  subst this
  omega

end Go.Proofs.YtpicmhbjiaegpaaGreatDoor

namespace Go.Proofs.YtpicmhbjiaegpaaGreatDoor
open Go.RowKit

end Go.Proofs.YtpicmhbjiaegpaaGreatDoor

namespace Go.Proofs.YtpicmhbjiaegpaaGreatDoor
open Go.RowKit

theorem digs_len_next {N y k : Nat} (h : N < y * 1000000000) (hy : (digs y).length ≤ k) : (digs N).length ≤ k + 1 := by
  refine length_digs_le ?_
  have h1 := digs_lt y
  have h3 := Nat.pow_le_pow_right (n := 1000000000) (by decide) hy
  rw [Nat.pow_succ]
  exact Nat.lt_of_lt_of_le h (Nat.mul_le_mul_right _ (by omega))

theorem refAt_i (zs : List Int) (a : Option Addr) (n c i : Nat) (I z : Int) (w : World) (hI : I = (i : Int)) (h : SL w.heap.size w a n c zs) (hn : n ≤ 1000000) (hi : i ≤ 1000000) (hz : zs.getD i 0 = z) :
    Calls Tryz.prog 109 #[.slice a n c, .int .i64 I] w (fun e w' => e = .returned (.int .i64 z) ∧ w = w') := by
  subst hI; exact refAt_z zs a n c i z w h hn hi hz

/-- the quotient and the rest, rounded down -/
theorem quo_floor (X : Int) (h1 : -999999998000000001 - 1000000000 ≤ X) (h2 : X ≤ 999999999) :
    -1000000000 ≤ X.tdiv 1000000000 ∧ X.tdiv 1000000000 ≤ 0 ∧ -1000000000 < X.tmod 1000000000 ∧ X.tmod 1000000000 < 1000000000 ∧
      ((0 ≤ X.tmod 1000000000 ∧ X.tdiv 1000000000 = X / 1000000000 ∧ X.tmod 1000000000 = X % 1000000000) ∨
       (X.tmod 1000000000 < 0 ∧ X.tdiv 1000000000 - 1 = X / 1000000000 ∧ X.tmod 1000000000 + 1000000000 = X % 1000000000)) := by
  by_cases h : 0 ≤ X
  · rw [Int.tdiv_eq_ediv_of_nonneg h, Int.tmod_eq_emod_of_nonneg h]
    omega
  · rw [tdiv_of_neg (by omega), tmod_of_neg (by omega)]
    omega

/-- digits in a block of one's own, not below B -/
def OwnD (B : Nat) (w : World) (a : Option Addr) (n c : Nat) (r : Nat) : Prop :=
  SL w.heap.size w a n c (digs r) ∧ (n = 0 ∨ ∃ g, a = some ⟨g, 0, none⟩ ∧ Blk w g (digs r) ∧ B ≤ g) ∧ (a = none → c = 0)

/-- what holds ahead of each round of taken -/
def TakeRel (B : Nat) (w : World) (x y : Nat) (rv nv : Value) (wr : World) : Prop :=
  ∃ (r q : Nat) (a : Option Addr) (n c : Nat), rv = .slice a n c ∧ nv = .int .i64 (q : Int) ∧ x = q * y + r ∧ OwnD B wr a n c r ∧ Below B w wr

set_option maxRecDepth 100000 in
set_option maxHeartbeats 1600000 in
theorem taken_any (B x y : Nat) (a b : Option Addr) (n m c d : Nat) (w : World) (ha : OwnD B w a n c x) (hb : SL B w b m d (digs y)) (hB : B ≤ w.heap.size) (hy : 0 < y) (hxy : x < y * 1000000000) (hm : m ≤ 599) :
    Calls Tryz.prog 121 #[.slice a n c, .slice b m d] w
      (fun e w' => ∃ a' n' c', e = .returned (.tuple #[.slice a' n' c', .int .i64 ((x / y : Nat) : Int)]) ∧ OwnD B w' a' n' c' (x % y) ∧ Below B w w') := by
  have Ha := Lib.hid ha; have Hb := Lib.hid hb; have Hxy := Lib.hid hxy; clear ha hb hxy
  go_enter Tryz.func121, Tryz.ntmps121
  go_wp2_with fail
  go_loopw [0, 6] (fun rv nv wr => TakeRel B w x y rv nv wr) (fun _ nv _ => x - (intOf nv).toNat)
  case atStart => exact ⟨x, 0, a, n, c, rfl, rfl, by omega, Ha.out, Below.refl _ _⟩
  case round =>
    clear Ha
    obtain ⟨r, q, a, n, c, rfl, rfl, hx, ho, hbw⟩ := hrel
    have Hx := Lib.hid hx; have Ho := Lib.hid ho
    have hbs : SL wr.heap.size wr b m d (digs y) := (Hb.out.below hbw (Nat.le_refl _)).mono (by have := hbw.size; omega)
    have Hbs := Lib.hid hbs
    have hn : n ≤ 600 := by
      rw [ho.1.len]
      exact digs_len_next (y := y) (Nat.lt_of_le_of_lt (by have := Hx.out; omega) Hxy.out) (by rw [← Hb.out.len]; exact hm)
    have hq : (q : Int) < 1000000000 := by
      have h1 : q * y < 1000000000 * y := by have := Hxy.out; rw [Nat.mul_comm 1000000000]; omega
      have := Nat.lt_of_mul_lt_mul_right h1
      omega
    clear hx ho hbs
    by_cases hry : r < y
    · have hd : decide (r < y) = true := by simpa using hry
      go_wp2_with fail
      refine (less_any r y a b n m c d _ Ho.out.1 Hbs.out (by omega)).mono ?_
      rintro e w2 ⟨rfl, nk, rfl⟩
      rw [hd]
      have hqq : q = x / y := by
        rw [Hx.out]; exact (Nat.div_eq_of_lt_le (by omega) (by rw [Nat.add_mul]; omega)).symm
      have hrr : r = x % y := by
        rw [Hx.out, Nat.mul_comm, Nat.mul_add_mod]; exact (Nat.mod_eq_of_lt hry).symm
      have Hqq := Lib.hid hqq; have Hrr := Lib.hid hrr
      clear hd hry hqq hrr
      go_wp2
      go_ret2
      rw [← Hqq.out, ← Hrr.out]
      exact ⟨a, n, c, rfl, Ho.out, below_drewN hbw _⟩
    · have hd : decide (r < y) = false := by simpa using hry
      have hrx : r < y * 1000000000 := by have h1 := Hxy.out; have h2 := Hx.out; omega
      obtain ⟨M, hM⟩ : ∃ M, m = M + 1 := ⟨m - 1, by
        have h1 := Hb.out.len
        have : (digs y).length ≠ 0 := fun e => by have := digs_len_zero.1 e; omega
        omega⟩
      have hm1 : (m : Int) - 1 = (M : Int) := by omega
      have hMm : M < m := by omega
      have HM := Lib.hid hM; clear hM
      have hlm : M + 1 ≤ n := by
        have hM := HM.out
        have h1 := Hb.out.len
        have h2 := Ho.out.1.len
        have h3 := length_digs_mono (n := y) (m := r) (by omega)
        omega
      have hMn : M < n := by omega
      obtain ⟨bb, ob, rfl, hbb, cb⟩ := Hb.out.at (by omega)
      have hown := Ho.out.2.1
      rcases hown with hn0 | ⟨g, rfl, hblk, hgB⟩
      · omega
      have g1 := hblk.cell (j := M) (by rw [← Ho.out.1.len]; omega)
      have g2 := (hbw.cell (p := ⟨bb, ob + M, none⟩) hbb).trans (cb M (by omega))
      have Hcb := Lib.hid cb
      obtain ⟨K, hK⟩ : ∃ K : Int, K = if (((digs r).getD (M + 1) 0) * 1000000000 + (digs r).getD M 0) / ((digs y).getD M 0 + 1) = 0 then 1 else (((digs r).getD (M + 1) 0) * 1000000000 + (digs r).getD M 0) / ((digs y).getD M 0 + 1) := ⟨_, rfl⟩
      obtain ⟨hK1, hK2, hK3, h0, h1, h2, h3, h4, h5⟩ := often (x := r) (y := y) (m := M) hy (by rw [← Hb.out.len, HM.out]) hrx (by omega) rfl rfl rfl hK
      generalize hhi : (digs r).getD (M + 1) 0 = hi at *
      generalize htop : (digs r).getD M 0 = top at *
      generalize hbt : (digs y).getD M 0 = bt at *
      have e1 : (hi * 1000000000 + top).tdiv (bt + 1) = (hi * 1000000000 + top) / (bt + 1) := Int.tdiv_eq_ediv_of_nonneg (by omega)
      have e2 : 0 ≤ (hi * 1000000000 + top) / (bt + 1) := Int.ediv_nonneg (by omega) (by omega)
      generalize hk0 : (hi * 1000000000 + top) / (bt + 1) = k0 at *
      have e3 : ¬ (bt + 1 = 0) := by omega
      have e4 : k0 ≤ K := by rw [hK]; split <;> omega
      have v1 : IntKind.i64.wrap ((M : Int) + 1) = (M : Int) + 1 := IntWalk.i64_in _ (by omega)
      have v2 : IntKind.i64.wrap (hi * 1000000000) = hi * 1000000000 := IntWalk.i64_in _ (by omega)
      have v3 : IntKind.i64.wrap (hi * 1000000000 + top) = hi * 1000000000 + top := IntWalk.i64_in _ (by omega)
      have v4 : IntKind.i64.wrap (bt + 1) = bt + 1 := IntWalk.i64_in _ (by omega)
      have v5 : IntKind.i64.wrap k0 = k0 := IntWalk.i64_in _ (by omega)
      have Hk0 := Lib.hid hk0; have Hhi := Lib.hid hhi; have HKy := Lib.hid hK3; have Hbbl := Lib.hid hblk
      clear hk0 htop hbt hhi cb hK3 hrx
      go_wp2_with fail
      refine (less_any r y _ _ n m c d _ Ho.out.1 Hbs.out (by omega)).mono ?_
      rintro e w2 ⟨rfl, nk, rfl⟩
      rw [hd]; clear hd
      go_wp2_with fail
      refine wp_region_eager 16 [(0, true), (1, true), (2, true), (5, true), (6, true), (7, true), (8, true), (10, true), (11, true), (12, true), (13, true), (14, true), (3, false), (4, true), (9, true), (15, true)] (by kernel_rfl) (by kernel_rfl) ?_
      iterate 12
        refine wpOrd_yield (v := ?_) rfl (fun _ _ _ h => h) (by rfl) ?_ ?_
        rotate_left
        · intro x hx
          have z1 := (hx.cell (p := ⟨g, M, none⟩) Hbbl.out.lt).trans g1
          have z2 := (hx.cell (p := ⟨bb, ob + M, none⟩) (by show bb < wr.heap.size; have := hbw.size; omega)).trans g2
          go_simp
          with_reducible rfl
        try simp only [Act.put, List.setIfInBounds_toArray, List.set_cons_zero, List.set_cons_succ]
      refine wpOrd_step rfl rfl (fun KK hKK => ?_)
      go_simp
      refine (refAt_i (digs r) _ n c (M + 1) _ hi _ (by omega) (by exact Ho.out.1) (by omega) (by omega) Hhi.out).mono ?_
      rintro e w4 ⟨rfl, rfl⟩
      refine hKK _ _ (Below.refl _ _) ?_
      clear hKK KK
      try simp only [Act.put, List.setIfInBounds_toArray, List.set_cons_zero, List.set_cons_succ]
      iterate 3
        refine wpOrd_yield (v := ?_) rfl (fun _ _ _ h => h) (by rfl) ?_ ?_
        rotate_left
        · intro x hx
          go_simp
          with_reducible rfl
        try simp only [Act.put, List.setIfInBounds_toArray, List.set_cons_zero, List.set_cons_succ]
      refine wpOrd_nil rfl ?_
      by_cases hk00 : k0 = 0
      · have hK0 : K = 1 := by rw [hK, if_pos hk00]
        have HK1 := Lib.hid hK0
        subst hk00
        clear hK hK0 e1 g1 g2
        go_wp2_with fail
        clear v1 v2 v3 v4 v5 e2 e3 e4
        obtain ⟨wo, rfl⟩ : ∃ wo : World, wo = wr := ⟨_, rfl⟩
        go_loopw [9, 10] (fun cv iv wr => ∃ (i : Nat) (cr : Int) (out : List Int), cv = .int .i64 cr ∧ iv = .int .i64 (i : Int) ∧ i ≤ n ∧ Blk wr g out ∧ D1 (digs r) (digs y) K i cr out ∧ Below B w wr) (fun _ iv _ => n - (intOf iv).toNat)
        case atStart => exact ⟨0, 0, digs r, rfl, rfl, Nat.zero_le _, Hbbl.out.drew _, D1.start (dig_digs r), below_drewN hbw _⟩
        case round =>
          obtain ⟨i, cr, out, rfl, rfl, hi, hblk, hp, hbw2⟩ := hrel
          have hol : out.length = n := by rw [hp.1, ← Ho.out.1.len]
          have Hol := Lib.hid hol; clear hol
          by_cases hin : i < n
          · have g1 := hblk.cell (j := i) (by have := Hol.out; omega)
            rw [hp.2.2.1 i (Nat.le_refl _)] at g1
            have g3 := hblk.free i
            have hri := (dig_digs r).all i
            have hyi := (dig_digs y).all i
            have hc0 := hp.2.2.2.2.1
            have hc1 := hp.2.2.2.2.2
            have hst := hp.step (dig_digs y) (by omega) hK2 (by rw [← Ho.out.1.len]; exact hin)
            have hby := (Hb.out.below hbw2 (Nat.le_refl _)).mono (show B ≤ wr.heap.size by have := hbw2.size; omega)
            have hgl := hblk.lt
            obtain ⟨b1, b2⟩ := mul_bd2 hyi ⟨by omega, hK2⟩
            have Hby := Lib.hid hby
            generalize hxx : (digs r).getD i 0 = ri at *
            generalize hyy : (digs y).getD i 0 = yi at *
            generalize hpK : yi * K = p at *
            generalize hX : ri - p + cr = X at *
            have x1 : -999999998000000001 - 1000000000 ≤ X := by omega
            have x2 : X ≤ 999999999 := by omega
            have Hst := Lib.hid hst; have Hyy := Lib.hid hyy; have Hp := Lib.hid hp
            clear hst hyy hxx hp hby
            first
              | (have hp1 : p = yi := by
                   rw [← hpK, HK1.out, Int.mul_one]
                 subst hp1
                 clear hpK)
              | skip
            have v6 : IntKind.i64.wrap p = p := IntWalk.i64_in _ (by omega)
            have v7 : IntKind.i64.wrap (ri - p) = ri - p := IntWalk.i64_in _ (by omega)
            have v8 : IntKind.i64.wrap X = X := IntWalk.i64_in _ (by omega)
            go_wp2_with fail
            refine wp_region_eager 12 [(0, true), (1, true), (2, true), (3, true), (4, true), (5, true), (7, true), (10, true), (6, false), (8, true), (9, true), (11, true)] (by kernel_rfl) (by kernel_rfl) ?_
            iterate 8
              refine wpOrd_yield (v := ?_) rfl (fun _ _ _ h => h) (by rfl) ?_ ?_
              rotate_left
              · intro x hx
                have z1 := (hx.cell (p := ⟨g, i, none⟩) hgl).trans g1
                go_simp
                with_reducible rfl
              try simp only [Act.put, List.setIfInBounds_toArray, List.set_cons_zero, List.set_cons_succ]
            refine wpOrd_step rfl rfl (fun KK hKK => ?_)
            go_simp
            refine (refAt_z (digs y) _ m d i _ _ (by exact Hby.out) (by omega) (by omega) Hyy.out).mono ?_
            rintro e w4 ⟨rfl, rfl⟩
            refine hKK _ _ (Below.refl _ _) ?_
            clear hKK KK
            try simp only [Act.put, List.setIfInBounds_toArray, List.set_cons_zero, List.set_cons_succ]
            iterate 3
              refine wpOrd_yield (v := ?_) rfl (fun _ _ _ h => h) (by rfl) ?_ ?_
              rotate_left
              · intro x hx
                go_simp
                with_reducible rfl
              try simp only [Act.put, List.setIfInBounds_toArray, List.set_cons_zero, List.set_cons_succ]
            refine wpOrd_nil rfl ?_
            have h3 := quo_floor X x1 x2
            generalize hQ0 : X.tdiv 1000000000 = Q0 at h3
            generalize hR0 : X.tmod 1000000000 = R0 at h3
            obtain ⟨y1, y2, y3, y4, h3⟩ := h3
            clear x1 x2
            rcases h3 with ⟨h3, h4, h5⟩ | ⟨h3, h4, h5⟩
            · have h3' : ¬ R0 < 0 := by omega
              have H4 := Lib.hid h4; have H5 := Lib.hid h5; clear h4 h5 h3
              go_wp2
              go_roundw
              case rel =>
                refine ⟨i + 1, Q0, _, rfl, by go_num, by omega, hblk.set i (by have := Hol.out; omega) R0, ?_, below_drewN (show Below B w (World.setCell wr ⟨g, i, none⟩ _) from hbw2.setCell hgB _) 1⟩
                have := Hst.out
                rw [← H4.out, ← H5.out] at this
                exact this
              case measure => simp [intOf]; omega
            · have H4 := Lib.hid h4; have H5 := Lib.hid h5; clear h4 h5
              go_wp2
              go_roundw
              case rel =>
                refine ⟨i + 1, Q0 - 1, _, rfl, by go_num, by omega, hblk.set i (by have := Hol.out; omega) (R0 + 1000000000), ?_, below_drewN (show Below B w (World.setCell wr ⟨g, i, none⟩ _) from hbw2.setCell hgB _) 1⟩
                have := Hst.out
                rw [← H4.out, ← H5.out] at this
                exact this
              case measure => simp [intOf]; omega
          · obtain rfl : i = n := by omega
            have hdn : Dig out ∧ val out = val (digs r) - K * val (digs y) := by
              have hl1 := Ho.out.1.len
              have h := hp
              rw [hl1] at h
              exact h.done (length_digs_mono (by omega)) (by rw [val_digs, val_digs]; exact HKy.out)
            obtain ⟨hdig, hval⟩ := hdn
            rw [val_digs, val_digs] at hval
            obtain ⟨r', hr'⟩ : ∃ r' : Nat, (r' : Int) = (r : Int) - K * y := ⟨((r : Int) - K * y).toNat, Int.toNat_of_nonneg (by have := HKy.out; omega)⟩
            obtain ⟨kn, hkn⟩ : ∃ kn : Nat, (kn : Int) = K := ⟨K.toNat, Int.toNat_of_nonneg (by omega)⟩
            have hrk : r = kn * y + r' := by
              have h1 : (r : Int) = (kn : Int) * y + r' := by rw [hkn]; omega
              rw [← Int.natCast_mul, ← Int.natCast_add] at h1
              exact Int.ofNat_inj.1 h1
            have hvr : val out = (r' : Int) := by rw [hval, hr']
            have hlen : (digs (val out).toNat).length ≤ 600 := by
              rw [hvr, Int.toNat_natCast]
              have := length_digs_mono (n := r') (m := r) (by omega)
              rw [← Ho.out.1.len] at this
              omega
            have hsl := hblk.sl (c := c) (by have := Hol.out; have := Ho.out.1.cap; omega)
            rw [Hol.out] at hsl
            have Hsl := Lib.hid hsl; have Hdig := Lib.hid hdig; have Hlen := Lib.hid hlen; have Hvr := Lib.hid hvr; have Hrk := Lib.hid hrk; have Hkn := Lib.hid hkn
            clear hsl hdig hlen hvr hrk hkn hval hr' hp
            have hgl := hblk.lt
            go_wp2_with fail
            refine (made_own false out (r' : Int) _ _ _ _ Hsl.out Hdig.out (by omega) Hlen.out (by rw [Hvr.out]; rfl)).mono ?_
            rintro e w5 ⟨s5, a5, n5, c5, rfl, hlg, hb5, hf5, ho5, hc5⟩
            have hb5' : Below B w w5 := hbw2.trans (hb5.mono (by have := hbw2.size; omega))
            have hown5 : OwnD B w5 a5 n5 c5 r' := by
              refine ⟨by simpa using hlg.2.1, ?_, hc5⟩
              rcases ho5 with h | ⟨g5, h, hbk⟩
              · exact Or.inl h
              · by_cases hz5 : n5 = 0
                · exact Or.inl hz5
                · refine Or.inr ⟨g5, h, by simpa using hbk, ?_⟩
                  have := hf5 g5 0 h (by omega)
                  have := hbw2.size
                  omega
            have Hown5 := Lib.hid hown5
            clear hlg hf5 ho5 hown5 hb5 hc5
            go_wp2_with fail
            change (?K : Act → World → Prop) (Act.put ?A _ (Value.slice a5 n5 c5)) _
            go_wp2
            go_roundw
            case rel =>
              refine ⟨r', q + kn, a5, n5, c5, rfl, ?_, ?_, Hown5.out, hb5'⟩
              · have := Hkn.out
                have h2 := HK1.out
                first
                  | (show Value.int .i64 _ = Value.int .i64 _; congr 1; omega)
              · rw [Hx.out, Hrk.out, Nat.add_mul, Nat.add_assoc]
            case measure =>
              have h1 := Hx.out
              have h2 := Hrk.out
              have h3 := Hkn.out
              have h4 := HK1.out
              have h5 : kn * 1 ≤ kn * y := Nat.mul_le_mul_left _ hy
              have h6 : q * 1 ≤ q * y := Nat.mul_le_mul_left _ hy
              simp [intOf]
              omega
      · have hK0 : K = k0 := by rw [hK, if_neg hk00]
        have hk01 : (k0 == 0) = false := by simpa using hk00
        subst hK0
        clear hK hk00 e1 g1 g2
        have HK1 := Lib.hid (rfl : K = K)
        go_wp2_with fail
        clear v1 v2 v3 v4 v5 e2 e3 e4 hk01
        obtain ⟨wo, rfl⟩ : ∃ wo : World, wo = wr := ⟨_, rfl⟩
        go_loopw [9, 10] (fun cv iv wr => ∃ (i : Nat) (cr : Int) (out : List Int), cv = .int .i64 cr ∧ iv = .int .i64 (i : Int) ∧ i ≤ n ∧ Blk wr g out ∧ D1 (digs r) (digs y) K i cr out ∧ Below B w wr) (fun _ iv _ => n - (intOf iv).toNat)
        case atStart => exact ⟨0, 0, digs r, rfl, rfl, Nat.zero_le _, Hbbl.out.drew _, D1.start (dig_digs r), below_drewN hbw _⟩
        case round =>
          obtain ⟨i, cr, out, rfl, rfl, hi, hblk, hp, hbw2⟩ := hrel
          have hol : out.length = n := by rw [hp.1, ← Ho.out.1.len]
          have Hol := Lib.hid hol; clear hol
          by_cases hin : i < n
          · have g1 := hblk.cell (j := i) (by have := Hol.out; omega)
            rw [hp.2.2.1 i (Nat.le_refl _)] at g1
            have g3 := hblk.free i
            have hri := (dig_digs r).all i
            have hyi := (dig_digs y).all i
            have hc0 := hp.2.2.2.2.1
            have hc1 := hp.2.2.2.2.2
            have hst := hp.step (dig_digs y) (by omega) hK2 (by rw [← Ho.out.1.len]; exact hin)
            have hby := (Hb.out.below hbw2 (Nat.le_refl _)).mono (show B ≤ wr.heap.size by have := hbw2.size; omega)
            have hgl := hblk.lt
            obtain ⟨b1, b2⟩ := mul_bd2 hyi ⟨by omega, hK2⟩
            have Hby := Lib.hid hby
            generalize hxx : (digs r).getD i 0 = ri at *
            generalize hyy : (digs y).getD i 0 = yi at *
            generalize hpK : yi * K = p at *
            generalize hX : ri - p + cr = X at *
            have x1 : -999999998000000001 - 1000000000 ≤ X := by omega
            have x2 : X ≤ 999999999 := by omega
            have Hst := Lib.hid hst; have Hyy := Lib.hid hyy; have Hp := Lib.hid hp
            clear hst hyy hxx hp hby
            first
              | (have hp1 : p = yi := by
                   rw [← hpK, HK1.out, Int.mul_one]
                 subst hp1
                 clear hpK)
              | skip
            have v6 : IntKind.i64.wrap p = p := IntWalk.i64_in _ (by omega)
            have v7 : IntKind.i64.wrap (ri - p) = ri - p := IntWalk.i64_in _ (by omega)
            have v8 : IntKind.i64.wrap X = X := IntWalk.i64_in _ (by omega)
            go_wp2_with fail
            refine wp_region_eager 12 [(0, true), (1, true), (2, true), (3, true), (4, true), (5, true), (7, true), (10, true), (6, false), (8, true), (9, true), (11, true)] (by kernel_rfl) (by kernel_rfl) ?_
            iterate 8
              refine wpOrd_yield (v := ?_) rfl (fun _ _ _ h => h) (by rfl) ?_ ?_
              rotate_left
              · intro x hx
                have z1 := (hx.cell (p := ⟨g, i, none⟩) hgl).trans g1
                go_simp
                with_reducible rfl
              try simp only [Act.put, List.setIfInBounds_toArray, List.set_cons_zero, List.set_cons_succ]
            refine wpOrd_step rfl rfl (fun KK hKK => ?_)
            go_simp
            refine (refAt_z (digs y) _ m d i _ _ (by exact Hby.out) (by omega) (by omega) Hyy.out).mono ?_
            rintro e w4 ⟨rfl, rfl⟩
            refine hKK _ _ (Below.refl _ _) ?_
            clear hKK KK
            try simp only [Act.put, List.setIfInBounds_toArray, List.set_cons_zero, List.set_cons_succ]
            iterate 3
              refine wpOrd_yield (v := ?_) rfl (fun _ _ _ h => h) (by rfl) ?_ ?_
              rotate_left
              · intro x hx
                go_simp
                with_reducible rfl
              try simp only [Act.put, List.setIfInBounds_toArray, List.set_cons_zero, List.set_cons_succ]
            refine wpOrd_nil rfl ?_
            have h3 := quo_floor X x1 x2
            generalize hQ0 : X.tdiv 1000000000 = Q0 at h3
            generalize hR0 : X.tmod 1000000000 = R0 at h3
            obtain ⟨y1, y2, y3, y4, h3⟩ := h3
            clear x1 x2
            rcases h3 with ⟨h3, h4, h5⟩ | ⟨h3, h4, h5⟩
            · have h3' : ¬ R0 < 0 := by omega
              have H4 := Lib.hid h4; have H5 := Lib.hid h5; clear h4 h5 h3
              go_wp2
              go_roundw
              case rel =>
                refine ⟨i + 1, Q0, _, rfl, by go_num, by omega, hblk.set i (by have := Hol.out; omega) R0, ?_, below_drewN (show Below B w (World.setCell wr ⟨g, i, none⟩ _) from hbw2.setCell hgB _) 1⟩
                have := Hst.out
                rw [← H4.out, ← H5.out] at this
                exact this
              case measure => simp [intOf]; omega
            · have H4 := Lib.hid h4; have H5 := Lib.hid h5; clear h4 h5
              go_wp2
              go_roundw
              case rel =>
                refine ⟨i + 1, Q0 - 1, _, rfl, by go_num, by omega, hblk.set i (by have := Hol.out; omega) (R0 + 1000000000), ?_, below_drewN (show Below B w (World.setCell wr ⟨g, i, none⟩ _) from hbw2.setCell hgB _) 1⟩
                have := Hst.out
                rw [← H4.out, ← H5.out] at this
                exact this
              case measure => simp [intOf]; omega
          · obtain rfl : i = n := by omega
            have hdn : Dig out ∧ val out = val (digs r) - K * val (digs y) := by
              have hl1 := Ho.out.1.len
              have h := hp
              rw [hl1] at h
              exact h.done (length_digs_mono (by omega)) (by rw [val_digs, val_digs]; exact HKy.out)
            obtain ⟨hdig, hval⟩ := hdn
            rw [val_digs, val_digs] at hval
            obtain ⟨r', hr'⟩ : ∃ r' : Nat, (r' : Int) = (r : Int) - K * y := ⟨((r : Int) - K * y).toNat, Int.toNat_of_nonneg (by have := HKy.out; omega)⟩
            obtain ⟨kn, hkn⟩ : ∃ kn : Nat, (kn : Int) = K := ⟨K.toNat, Int.toNat_of_nonneg (by omega)⟩
            have hrk : r = kn * y + r' := by
              have h1 : (r : Int) = (kn : Int) * y + r' := by rw [hkn]; omega
              rw [← Int.natCast_mul, ← Int.natCast_add] at h1
              exact Int.ofNat_inj.1 h1
            have hvr : val out = (r' : Int) := by rw [hval, hr']
            have hlen : (digs (val out).toNat).length ≤ 600 := by
              rw [hvr, Int.toNat_natCast]
              have := length_digs_mono (n := r') (m := r) (by omega)
              rw [← Ho.out.1.len] at this
              omega
            have hsl := hblk.sl (c := c) (by have := Hol.out; have := Ho.out.1.cap; omega)
            rw [Hol.out] at hsl
            have Hsl := Lib.hid hsl; have Hdig := Lib.hid hdig; have Hlen := Lib.hid hlen; have Hvr := Lib.hid hvr; have Hrk := Lib.hid hrk; have Hkn := Lib.hid hkn
            clear hsl hdig hlen hvr hrk hkn hval hr' hp
            have hgl := hblk.lt
            go_wp2_with fail
            refine (made_own false out (r' : Int) _ _ _ _ Hsl.out Hdig.out (by omega) Hlen.out (by rw [Hvr.out]; rfl)).mono ?_
            rintro e w5 ⟨s5, a5, n5, c5, rfl, hlg, hb5, hf5, ho5, hc5⟩
            have hb5' : Below B w w5 := hbw2.trans (hb5.mono (by have := hbw2.size; omega))
            have hown5 : OwnD B w5 a5 n5 c5 r' := by
              refine ⟨by simpa using hlg.2.1, ?_, hc5⟩
              rcases ho5 with h | ⟨g5, h, hbk⟩
              · exact Or.inl h
              · by_cases hz5 : n5 = 0
                · exact Or.inl hz5
                · refine Or.inr ⟨g5, h, by simpa using hbk, ?_⟩
                  have := hf5 g5 0 h (by omega)
                  have := hbw2.size
                  omega
            have Hown5 := Lib.hid hown5
            clear hlg hf5 ho5 hown5 hb5 hc5
            go_wp2_with fail
            change (?K2 : Act → World → Prop) (Act.put ?A2 _ (Value.slice a5 n5 c5)) _
            go_wp2
            go_roundw
            case rel =>
              refine ⟨r', q + kn, a5, n5, c5, rfl, ?_, ?_, Hown5.out, hb5'⟩
              · have := Hkn.out
                have h2 := HK1.out
                first
                  | (show Value.int .i64 _ = Value.int .i64 _; congr 1; omega)
              · rw [Hx.out, Hrk.out, Nat.add_mul, Nat.add_assoc]
            case measure =>
              have h1 := Hx.out
              have h2 := Hrk.out
              have h3 := Hkn.out
              have h4 := HK1.out
              have h5 : kn * 1 ≤ kn * y := Nat.mul_le_mul_left _ hy
              have h6 : q * 1 ≤ q * y := Nat.mul_le_mul_left _ hy
              simp [intOf]
              omega


end Go.Proofs.YtpicmhbjiaegpaaGreatDoor

namespace Go.Proofs.YtpicmhbjiaegpaaGreatDoor
open Go.RowKit

theorem heap_setCells {b : Nat} {T : TypeId} : ∀ (vs pre old post : List Value) (w : World), old.length = vs.length → w.heap[b]? = some (.cells (pre ++ old ++ post).toArray T (0, 0)) → (w.setCells b pre.length vs).heap[b]? = some (.cells (pre ++ vs ++ post).toArray T (0, 0))
  | [], pre, old, post, w, hl, h => by
    obtain rfl : old = [] := List.length_eq_zero_iff.1 hl
    exact h
  | v :: vs, pre, old, post, w, hl, h => by
    match old, hl with
    | o :: old, hl =>
      have h1 := obj_setCell h pre.length v
      rw [List.setIfInBounds_toArray, List.append_assoc, List.set_append, if_neg (by omega), Nat.sub_self] at h1
      simp only [List.cons_append, List.set_cons_zero] at h1
      have h2 := heap_setCells (T := T) vs (pre ++ [v]) old post (w.setCell ⟨b, pre.length, none⟩ v) (by simpa using hl) (by rw [h1]; simp)
      simp only [List.length_append, List.length_singleton] at h2
      show ((w.setCell ⟨b, pre.length, none⟩ v).setCells b (pre.length + 1) vs).heap[b]? = _
      rw [h2]; simp
theorem heap_setAll {b : Nat} {T : TypeId} {vs : List Value} {cs : Array Value} {w : World} (h : w.heap[b]? = some (.cells cs T (0, 0))) (hl : cs.size = vs.length) : (w.setCells b 0 vs).heap[b]? = some (.cells vs.toArray T (0, 0)) := by
  have := heap_setCells vs [] cs.toList [] w (by simpa using hl) (by simpa using h)
  simpa using this
theorem below_setCells {B b : Nat} (hb : B ≤ b) : ∀ (vs : List Value) (o : Nat) {w w' : World}, Below B w w' → Below B w (w'.setCells b o vs)
  | [], _, _, _, h => h
  | v :: vs, o, _, _, h => below_setCells hb vs (o + 1) (h.setCell (p := ⟨b, o, none⟩) hb v)

theorem size_alloc (w : World) (o : Obj) : (w.alloc o).heap.size = w.heap.size + 1 := by simp
theorem there_block {w : World} {g n : Nat} {cs : Array Value} {T : TypeId} (h : w.heap[g]? = some (.cells cs T (0, 0))) (hs : cs.size = n) : w.there g 0 n := fun j hj => by
  subst hs
  simp [World.cell?, World.frozen?, h, hj]

/-- the blocks of S are as they were -/
def KeptOn (S : Nat → Prop) (w w' : World) : Prop := ∀ b, S b → w'.heap[b]? = w.heap[b]?

theorem KeptOn.refl (S : Nat → Prop) (w : World) : KeptOn S w w := fun _ _ => rfl
theorem KeptOn.trans {S : Nat → Prop} {w w1 w2 : World} (h1 : KeptOn S w w1) (h2 : KeptOn S w1 w2) : KeptOn S w w2 := fun b hb => (h2 b hb).trans (h1 b hb)
theorem KeptOn.cell {S : Nat → Prop} {w w' : World} (h : KeptOn S w w') {p : Addr} (hp : S p.block) : w'.cell? p = w.cell? p := by simp [World.cell?, h _ hp]
theorem KeptOn.mono {S T : Nat → Prop} {w w' : World} (h : KeptOn S w w') (hs : ∀ b, T b → S b) : KeptOn T w w' := fun b hb => h b (hs b hb)
theorem keptOn_below {B : Nat} {w w' : World} (h : Below B w w') : KeptOn (fun b => b < B) w w' := fun b hb => h.block b hb
theorem keptOn_grown {w w' : World} {row : Option Nat} (hg : w.grownBy w' row) : KeptOn (fun b => b < w.heap.size ∧ row ≠ some b) w w' := fun b hb => hg.block b hb.1 (fun e => hb.2 e.symm)
theorem keptOn_setCells (g : Nat) : ∀ (vs : List Value) (o : Nat) (w : World), KeptOn (fun b => b ≠ g) w (w.setCells g o vs)
  | [], _, _ => KeptOn.refl _ _
  | v :: vs, o, w => fun b hb => (keptOn_setCells g vs (o + 1) (w.setCell ⟨g, o, none⟩ v) b hb).trans (Below.heap_setCell _ _ _ _ (fun e => hb e))

/-- how a record lies in memory: its cells; what they point to lies in blocks of S -/
abbrev Rep (α : Type) := (Nat → Prop) → World → α → List Value → Prop
structure RepOk {α : Type} (k : Nat) (R : Rep α) : Prop where
  len : ∀ {S w x cs}, R S w x cs → cs.length = k
  kept : ∀ {S T w w' x cs}, R S w x cs → KeptOn S w w' → (∀ b, S b → T b) → R T w' x cs
  one : ∀ {S w x cs}, R S w x cs → ∀ v ∈ cs, v.oneCell' = true

/-- the slice (a, n, c) of records reads as l -/
def RR {α : Type} (R : Rep α) (k : Nat) (S : Nat → Prop) (w : World) (a : Option Addr) (n c : Nat) (l : List α) : Prop :=
  l.length = n ∧ n ≤ c ∧ (0 < n → ∃ b off, a = some ⟨b, off, none⟩ ∧ S b ∧ ∀ i x, l[i]? = some x → ∃ cs, R S w x cs ∧ w.rangeAt b (off + i * k) cs)

theorem rangeAt_kept {S : Nat → Prop} {w w' : World} {b o : Nat} {cs : List Value} (h : w.rangeAt b o cs) (hk : KeptOn S w w') (hb : S b) : w'.rangeAt b o cs := fun j v hv => (hk.cell (p := ⟨b, o + j, none⟩) hb).trans (h j v hv)

theorem RR.kept {α : Type} {R : Rep α} {k : Nat} (ok : RepOk k R) {S T : Nat → Prop} {w w' : World} {a : Option Addr} {n c : Nat} {l : List α} (h : RR R k S w a n c l) (hk : KeptOn S w w') (hs : ∀ b, S b → T b) : RR R k T w' a n c l :=
  ⟨h.1, h.2.1, fun hn => let ⟨b, off, e, hb, hc⟩ := h.2.2 hn; ⟨b, off, e, hs b hb, fun i x hx => let ⟨cs, h1, h2⟩ := hc i x hx; ⟨cs, ok.kept h1 hk hs, rangeAt_kept h2 hk hb⟩⟩⟩
theorem RR.go {α : Type} {R : Rep α} {k : Nat} (ok : RepOk k R) {w w' : World} {a : Option Addr} {n c : Nat} {l : List α} (h : RR R k (fun b => b < w.heap.size) w a n c l) (hb : Below w.heap.size w w') : RR R k (fun b => b < w'.heap.size) w' a n c l :=
  h.kept ok (keptOn_below hb) (fun _b h => Nat.lt_of_lt_of_le h hb.size)
theorem RR.nil {α : Type} (R : Rep α) (k : Nat) (S : Nat → Prop) (w : World) (a : Option Addr) (c : Nat) : RR R k S w a 0 c [] := ⟨rfl, Nat.zero_le _, fun h => absurd h (by omega)⟩
theorem RR.at {α : Type} {R : Rep α} {k : Nat} {S : Nat → Prop} {w : World} {a : Option Addr} {n c : Nat} {l : List α} (h : RR R k S w a n c l) {i : Nat} (hi : i < n) :
    ∃ b off x cs, a = some ⟨b, off, none⟩ ∧ S b ∧ l[i]? = some x ∧ R S w x cs ∧ w.rangeAt b (off + i * k) cs := by
  obtain ⟨b, off, e, hb, hc⟩ := h.2.2 (by omega)
  have hl : i < l.length := by rw [h.1]; exact hi
  obtain ⟨cs, h1, h2⟩ := hc i l[i] (List.getElem?_eq_getElem hl)
  exact ⟨b, off, l[i], cs, e, hb, List.getElem?_eq_getElem hl, h1, h2⟩
theorem RR.take {α : Type} {R : Rep α} {k : Nat} {S : Nat → Prop} {w : World} {a : Option Addr} {n c : Nat} {l : List α} (h : RR R k S w a n c l) {i : Nat} (hi : i ≤ n) : RR R k S w a i c (l.take i) := by
  refine ⟨by rw [List.length_take, h.1]; omega, Nat.le_trans hi h.2.1, fun h0 => ?_⟩
  obtain ⟨b, off, e, hb, hc⟩ := h.2.2 (by omega)
  refine ⟨b, off, e, hb, fun j x hx => ?_⟩
  rw [List.getElem?_take] at hx
  split at hx
  · exact hc j x hx
  · cases hx

/-! ### rows of the call's own -/
theorem flatten_at {k : Nat} : ∀ (css : List (List Value)) (i : Nat) (cs : List Value) (j : Nat), (∀ c ∈ css, c.length = k) → css[i]? = some cs → j < k → css.flatten[i * k + j]? = cs[j]?
  | [], i, cs, j, _, h, _ => by simp at h
  | c :: css, 0, cs, j, hl, h, hj => by
    have e : c = cs := by simpa using h
    subst e
    have := hl c (by simp)
    rw [List.flatten_cons, List.getElem?_append_left (by omega)]
    simp
  | c :: css, i + 1, cs, j, hl, h, hj => by
    have hc := hl c (by simp)
    rw [List.flatten_cons, List.getElem?_append_right (by rw [hc, Nat.succ_mul]; omega), hc]
    rw [show (i + 1) * k + j - k = i * k + j by rw [Nat.succ_mul]; omega]
    exact flatten_at css i cs j (fun c hc => hl c (by simp [hc])) (by simpa using h) hj

theorem length_flatten {k : Nat} : ∀ (css : List (List Value)), (∀ c ∈ css, c.length = k) → css.flatten.length = css.length * k
  | [], _ => by simp
  | c :: css, hl => by
    rw [List.flatten_cons, List.length_append, length_flatten css (fun c hc => hl c (by simp [hc])), hl c (by simp), List.length_cons, Nat.succ_mul]; omega

theorem flatten_set {k : Nat} : ∀ (css : List (List Value)) (i : Nat) (cs : List Value), (∀ c ∈ css, c.length = k) → i < css.length → cs.length = k → (css.set i cs).flatten = css.flatten.take (i * k) ++ cs ++ css.flatten.drop (i * k + k)
  | [], i, cs, _, h, _ => by simp at h
  | c :: css, 0, cs, hl, h, hc => by
    have := hl c (by simp)
    simp [this]
  | c :: css, i + 1, cs, hl, h, hc => by
    have hcl := hl c (by simp)
    have ih := flatten_set css i cs (fun c hc => hl c (by simp [hc])) (by simpa using h) hc
    rw [List.set_cons_succ, List.flatten_cons, ih, List.flatten_cons]
    have e1 : c.take ((i + 1) * k) = c := List.take_of_length_le (by rw [hcl, Nat.succ_mul]; omega)
    have e2 : c.drop ((i + 1) * k + k) = [] := List.drop_eq_nil_of_le (by rw [hcl, Nat.succ_mul]; omega)
    rw [List.take_append, List.drop_append, e1, e2, hcl]
    rw [show (i + 1) * k - k = i * k by rw [Nat.succ_mul]; omega, show (i + 1) * k + k - k = i * k + k by rw [Nat.succ_mul]; omega]
    simp

/-- the value v is a row of the call's own that reads as l -/
def OwnR {α : Type} (R : Rep α) (k : Nat) (T : TypeId) (base : Nat) (w : World) (v : Value) (l : List α) : Prop :=
  ∃ css : List (List Value), css.length = l.length ∧ (∀ c ∈ css, c.length = k) ∧ w.ownsRow base T k v l.length css.flatten ∧ ∀ (i : Nat) (x : α) (cs : List Value), l[i]? = some x → css[i]? = some cs → R (fun b => base ≤ b ∧ b < w.heap.size ∧ v.ownBlock ≠ some b) w x cs

theorem OwnR.nil {α : Type} (R : Rep α) (k : Nat) (T : TypeId) (base : Nat) (w : World) : OwnR R k T base w (.slice none 0 0) [] :=
  ⟨[], rfl, by simp, World.ownsRow_nil _ _ _ _, fun i x cs h => by simp at h⟩

theorem ownsRow_below {w w' : World} {base : Nat} {e : TypeId} {size n : Nat} {v : Value} {xs : List Value} (h : w.ownsRow base e size v n xs) (hb : Below w.heap.size w w') : w'.ownsRow base e size v n xs := by
  obtain ⟨l, r⟩ := h
  refine ⟨l, r.imp id ?_⟩
  rintro ⟨g, cap, cur, e, q1, q2, q3⟩
  exact ⟨g, cap, cur, e, q1, (hb.block g (lt_of_block q2)).trans q2, q3⟩

theorem OwnR.go {α : Type} {R : Rep α} {k : Nat} (ok : RepOk k R) {T : TypeId} {base : Nat} {w w' : World} {v : Value} {l : List α} (h : OwnR R k T base w v l) (hb : Below w.heap.size w w') : OwnR R k T base w' v l := by
  obtain ⟨css, h1, h2, h3, h4⟩ := h
  refine ⟨css, h1, h2, ownsRow_below h3 hb, fun i x cs hx hc => ok.kept (h4 i x cs hx hc) ?_ ?_⟩
  · exact (keptOn_below hb).mono (fun b h => h.2.1)
  · exact fun b h => ⟨h.1, Nat.lt_of_lt_of_le h.2.1 hb.size, h.2.2⟩

/-- .. where all from base on is as it was -/
theorem OwnR.keep {α : Type} {R : Rep α} {k : Nat} (ok : RepOk k R) {T : TypeId} {base : Nat} {w w' : World} {v : Value} {l : List α} (h : OwnR R k T base w v l) (hk : KeptOn (fun b => base ≤ b ∧ b < w.heap.size) w w') (hs : w.heap.size ≤ w'.heap.size) : OwnR R k T base w' v l := by
  obtain ⟨css, h1, h2, h3, h4⟩ := h
  refine ⟨css, h1, h2, ?_, fun i x cs hx hc => ok.kept (h4 i x cs hx hc) (hk.mono (fun b h => ⟨h.1, h.2.1⟩)) (fun b h => ⟨h.1, Nat.lt_of_lt_of_le h.2.1 hs, h.2.2⟩)⟩
  obtain ⟨l, r⟩ := h3
  refine ⟨l, r.imp id ?_⟩
  rintro ⟨g, cap, cur, e, q1, q2, q3⟩
  exact ⟨g, cap, cur, e, q1, (hk g ⟨q1, lt_of_block q2⟩).trans q2, q3⟩

theorem OwnR.form {α : Type} {R : Rep α} {k : Nat} {T : TypeId} {base : Nat} {w : World} {v : Value} {l : List α} (h : OwnR R k T base w v l) :
    (v = .slice none 0 0 ∧ l = []) ∨ ∃ g cap, v = .slice (some ⟨g, 0, none⟩) l.length cap ∧ base ≤ g ∧ g < w.heap.size ∧ l.length ≤ cap ∧ cap ≤ maxLen ∧ v.ownBlock = some g := by
  obtain ⟨css, h1, h2, h3, h4⟩ := h
  rcases h3.2 with ⟨e, h0⟩ | ⟨g, cap, cur, e, q1, q2, q3, q4, q5, q6⟩
  · exact Or.inl ⟨e, List.length_eq_zero_iff.1 h0⟩
  · exact Or.inr ⟨g, cap, e, q1, lt_of_block q2, q3, q4, by rw [e]; rfl⟩

theorem OwnR.fresh {α : Type} {R : Rep α} {k : Nat} {T : TypeId} {base : Nat} {w : World} {v : Value} {l : List α} (h : OwnR R k T base w v l) {b : Nat} (hb : w.heap.size ≤ b) : v.ownBlock ≠ some b := by
  intro e
  rcases h.form with ⟨rfl, _⟩ | ⟨g, cap, _, _, q2, _, _, q5⟩
  · cases e
  · rw [q5] at e; cases e; omega

/-- a row of its own reads as any other -/
theorem OwnR.rr {α : Type} {R : Rep α} {k : Nat} (ok : RepOk k R) {T : TypeId} {base : Nat} {w : World} {a : Option Addr} {n c : Nat} {l : List α} (h : OwnR R k T base w (.slice a n c) l) : RR R k (fun b => b < w.heap.size) w a n c l := by
  obtain ⟨css, h1, h2, h3, h4⟩ := h
  rcases h3.2 with ⟨e, h0⟩ | ⟨g, cap, cur, e, q1, q2, q3, q4, q5, q6⟩
  · cases e
    obtain rfl := List.length_eq_zero_iff.1 h0
    exact RR.nil _ _ _ _ _ _
  · cases e
    refine ⟨rfl, q3, fun hn => ⟨g, 0, rfl, lt_of_block q2, fun i x hx => ?_⟩⟩
    have hi : i < l.length := (List.getElem?_eq_some_iff.1 hx).1
    have hci : css[i]? = some css[i] := List.getElem?_eq_getElem (by omega)
    refine ⟨css[i], ok.kept (h4 i x _ hx hci) (KeptOn.refl _ _) (fun b h => h.2.1), fun j v hv => ?_⟩
    have hj : j < k := by
      have := (List.getElem?_eq_some_iff.1 hv).1
      rw [h2 css[i] (List.getElem_mem _)] at this; exact this
    have hc := h3.cells (g := g) rfl (i * k + j) v (by rw [flatten_at css i _ j h2 hci hj]; exact hv)
    rw [Addr.add_mid, ← Nat.add_assoc] at hc
    exact hc

/-- one of its records -/
theorem OwnR.at {α : Type} {R : Rep α} {k : Nat} (ok : RepOk k R) {T : TypeId} {base : Nat} {w : World} {g n c : Nat} {l : List α} (h : OwnR R k T base w (.slice (some ⟨g, 0, none⟩) n c) l) {i : Nat} (hi : i < l.length) :
    ∃ cs, R (fun b => b < w.heap.size) w l[i] cs ∧ w.rangeAt g (i * k) cs := by
  have hr := h.rr ok
  obtain ⟨b, off, x, cs, e, hb, hx, h1, h2⟩ := hr.at (i := i) (by rw [← hr.1]; exact hi)
  cases e
  rw [List.getElem?_eq_getElem hi] at hx
  cases hx
  exact ⟨cs, h1, by simpa using h2⟩

theorem ownsRow_there {w : World} {base : Nat} {e : TypeId} {size n g c : Nat} {xs : List Value} (h : w.ownsRow base e size (.slice (some ⟨g, 0, none⟩) n c) n xs) {o m : Nat} (hm : o + m ≤ n * size) : w.there g o m := by
  rcases h.2 with ⟨e, _⟩ | ⟨g', cap, cur, e, q1, q2, q3, q4, q5, q6⟩
  · cases e
  · cases e
    intro j hj
    have : o + j < cur.size := by rw [q5]; have := Nat.mul_le_mul_right size q3; omega
    simp [World.cell?, World.frozen?, q2, this]
theorem OwnR.there {α : Type} {R : Rep α} {k : Nat} {T : TypeId} {base : Nat} {w : World} {g n c : Nat} {l : List α} (h : OwnR R k T base w (.slice (some ⟨g, 0, none⟩) n c) l) {i : Nat} (hi : i < l.length) : w.there g (i * k) k := by
  obtain ⟨css, h1, h2, h3, h4⟩ := h
  have hn : n = l.length := by
    rcases h3.2 with ⟨e, _⟩ | ⟨g', cap, cur, e, _⟩
    · cases e
    · cases e; rfl
  subst hn
  refine ownsRow_there h3 ?_
  have := Nat.mul_le_mul_right k (show i + 1 ≤ l.length from hi)
  rw [Nat.succ_mul] at this
  omega

theorem heap_setMid {b : Nat} {T : TypeId} {w : World} {cur : Array Value} (h : w.heap[b]? = some (.cells cur T (0, 0))) (o : Nat) (vs : List Value) (hl : o + vs.length ≤ cur.size) :
    (w.setCells b o vs).heap[b]? = some (.cells (cur.toList.take o ++ vs ++ cur.toList.drop (o + vs.length)).toArray T (0, 0)) := by
  have e : cur.toList = cur.toList.take o ++ (cur.toList.drop o).take vs.length ++ cur.toList.drop (o + vs.length) := by
    rw [List.append_assoc, ← List.drop_drop, List.take_append_drop, List.take_append_drop]
  have := heap_setCells (b := b) (T := T) vs (cur.toList.take o) ((cur.toList.drop o).take vs.length) (cur.toList.drop (o + vs.length)) w (by simp; omega) (by rw [← e]; simpa using h)
  rw [List.length_take, Nat.min_eq_left (by simp; omega)] at this
  exact this

theorem size_setCells (g : Nat) : ∀ (vs : List Value) (o : Nat) (w : World), (w.setCells g o vs).heap.size = w.heap.size
  | [], _, _ => rfl
  | v :: vs, o, w => by rw [World.setCells, size_setCells g vs]; simp

/-- one of its records is stored -/
theorem OwnR.set {α : Type} {R : Rep α} {k : Nat} (ok : RepOk k R) {T : TypeId} {base : Nat} {w : World} {g n c : Nat} {l : List α} (h : OwnR R k T base w (.slice (some ⟨g, 0, none⟩) n c) l) {i : Nat} (hi : i < l.length) {x : α} {cs : List Value}
    (hx : R (fun b => base ≤ b ∧ b < w.heap.size ∧ b ≠ g) w x cs) : OwnR R k T base (w.setCells g (i * k) cs) (.slice (some ⟨g, 0, none⟩) n c) (l.set i x) := by
  obtain ⟨css, h1, h2, h3, h4⟩ := h
  have hlen := ok.len hx
  have hob : (Value.slice (some ⟨g, 0, none⟩) n c).ownBlock = some g := rfl
  have hk : ∀ {y : α} {ds : List Value}, R (fun b => base ≤ b ∧ b < w.heap.size ∧ b ≠ g) w y ds → R (fun b => base ≤ b ∧ b < (w.setCells g (i * k) cs).heap.size ∧ (Value.slice (some ⟨g, 0, none⟩) n c).ownBlock ≠ some b) (w.setCells g (i * k) cs) y ds := fun hy =>
    ok.kept hy ((keptOn_setCells g cs (i * k) w).mono (fun b h => h.2.2)) (fun b h => ⟨h.1, by rw [size_setCells]; exact h.2.1, by rw [hob]; intro e; cases e; exact h.2.2 rfl⟩)
  refine ⟨css.set i cs, by simp [h1], ?_, ?_, ?_⟩
  · intro d hd
    rcases List.mem_or_eq_of_mem_set hd with hd | rfl
    · exact h2 d hd
    · exact hlen
  · rw [List.length_set]
    rcases h3.2 with ⟨e, _⟩ | ⟨g', cap, cur, e, q1, q2, q3, q4, q5, q6⟩
    · cases e
    · cases e
      have hmul := Nat.mul_le_mul_right k (show i + 1 ≤ l.length from hi)
      rw [Nat.succ_mul] at hmul
      have hmul2 := Nat.mul_le_mul_right k q3
      have hl2 : (css.set i cs).flatten.length = l.length * k := by
        rw [length_flatten (k := k) _ (fun d hd => by
          rcases List.mem_or_eq_of_mem_set hd with hd | rfl
          · exact h2 d hd
          · exact hlen), List.length_set, h1]
      refine ⟨hl2, Or.inr ⟨g, c, _, rfl, q1, heap_setMid q2 (i * k) cs (by rw [hlen, q5]; omega), q3, q4, ?_, ?_⟩⟩
      · simp [hlen]; omega
      · have hA : (cur.toList.take (i * k)).length = i * k := by rw [List.length_take, Nat.min_eq_left (by simp; omega)]
        have hB : (cur.toList.take (i * k) ++ cs).length = i * k + k := by rw [List.length_append, hA, hlen]
        rw [flatten_set css i cs h2 (by omega) hlen, ← q6, List.take_append, List.take_of_length_le (by rw [hB]; exact hmul), hB, List.take_take, Nat.min_eq_left (by omega), List.drop_take, hlen]
  · intro j y ds hj hd
    rw [List.getElem?_set] at hj hd
    by_cases e : i = j
    · subst e
      rw [if_pos rfl, if_pos (by omega)] at hj hd
      cases hj; cases hd
      exact hk hx
    · rw [if_neg e] at hj hd
      exact hk (ok.kept (h4 j y ds hj hd) (KeptOn.refl _ _) (fun b h => ⟨h.1, h.2.1, fun e => h.2.2 (by rw [hob, e])⟩))

/-- behind an append of records -/
theorem OwnR.grown {α : Type} {R : Rep α} {k : Nat} (ok : RepOk k R) {T : TypeId} {base : Nat} {w w' : World} {v : Value} {l l' : List α} {css ds : List (List Value)} (h : css.length = l.length ∧ (∀ c ∈ css, c.length = k) ∧ ∀ (i : Nat) (x : α) (cs : List Value), l[i]? = some x → css[i]? = some cs → R (fun b => base ≤ b ∧ b < w.heap.size ∧ v.ownBlock ≠ some b) w x cs)
    (hd : ds.length = l'.length ∧ (∀ c ∈ ds, c.length = k) ∧ ∀ (i : Nat) (x : α) (cs : List Value), l'[i]? = some x → ds[i]? = some cs → R (fun b => base ≤ b ∧ b < w.heap.size ∧ v.ownBlock ≠ some b) w x cs)
    {g cap : Nat} (hown : w'.ownsRow base T k (.slice (some ⟨g, 0, none⟩) (l.length + l'.length) cap) (l.length + l'.length) (css.flatten ++ ds.flatten)) (hgrow : w.grownBy w' v.ownBlock) (hat : v.ownBlock = some g ∨ g = w.heap.size) :
    OwnR R k T base w' (.slice (some ⟨g, 0, none⟩) (l.length + l'.length) cap) (l ++ l') := by
  have hk : ∀ {y : α} {cs : List Value}, R (fun b => base ≤ b ∧ b < w.heap.size ∧ v.ownBlock ≠ some b) w y cs → R (fun b => base ≤ b ∧ b < w'.heap.size ∧ (Value.slice (some ⟨g, 0, none⟩) (l.length + l'.length) cap).ownBlock ≠ some b) w' y cs := fun hy =>
    ok.kept hy ((keptOn_grown hgrow).mono (fun b h => h.2)) (fun b h => ⟨h.1, Nat.lt_of_lt_of_le h.2.1 hgrow.size, fun e => by
      have e : g = b := by simpa [Value.ownBlock] using e
      subst e
      rcases hat with e | e
      · exact h.2.2 e
      · have := h.2.1; omega⟩)
  refine ⟨css ++ ds, by simp [h.1, hd.1], fun c hc => ?_, by rw [List.flatten_append, List.length_append]; exact hown, fun i x cs hx hc => ?_⟩
  · rcases List.mem_append.1 hc with hc | hc
    · exact h.2.1 c hc
    · exact hd.2.1 c hc
  · by_cases hi : i < l.length
    · rw [List.getElem?_append_left hi] at hx
      rw [List.getElem?_append_left (by omega)] at hc
      exact hk (h.2.2 i x cs hx hc)
    · rw [List.getElem?_append_right (by omega)] at hx
      rw [List.getElem?_append_right (by omega), h.1] at hc
      exact hk (hd.2.2 _ x cs hx hc)

/-- append of one record to a row of the call's own -/
theorem wpList_append_rec2 {ops : Array Oper} {rest : List Oper} {o : Oper} {a : Act} {Q : Exit → Act → World → Prop} {W : World} {α : Type} {R : Rep α} {k : Nat} (ok : RepOk k R) {T ST : TypeId} {z : Value} {bytes : Nat} (hST : Tryz.prog.underlying ST = some (.slice T)) (hT : (Tryz.prog.info? T).map (fun i => (i.zero, i.size, i.bytes)) = some (some z, k, bytes)) (hz : z.cells.size = k) (hk : 0 < k) (hby : bytes ≤ 10000)
    (hgd : o.guard = none) (s x : Operand)
    (ho : o.op = .call { callee := .builtin .append, args := #[s, x], argTypes := #[ST, ST] }) (base : Nat) (w : World) (v : Value) (l : List α) (y : α) (cs : List Value)
    (hs : a.eval s = v) (hrow : OwnR R k T base w v l) (hW : W = w.alloc (.cells cs.toArray T)) (hx : a.eval x = .slice (some ⟨w.heap.size, 0, none⟩) 1 1) (hy : R (fun b => base ≤ b ∧ b < w.heap.size ∧ v.ownBlock ≠ some b) w y cs) (hlen : l.length ≤ 1000000) (hbase : base ≤ w.heap.size)
    (h : ∀ g cap w', OwnR R k T base w' (.slice (some ⟨g, 0, none⟩) (l.length + 1) cap) (l ++ [y]) → (∀ B w0, B ≤ base → Below B w0 w → Below B w0 w') → KeptOn (fun b => b < w.heap.size ∧ v.ownBlock ≠ some b) w w' → w.heap.size ≤ w'.heap.size → wpList Tryz.prog ops Q rest (a.put o.dst (.slice (some ⟨g, 0, none⟩) (l.length + 1) cap)) w') :
    wpList Tryz.prog ops Q (o :: rest) a W := by
  subst hW
  have hb1 : Below w.heap.size w (w.alloc (.cells cs.toArray T)) := (Below.refl _ _).alloc (Nat.le_refl _) _
  have hrow' := hrow.go ok hb1
  obtain ⟨css, h1, h2, h3, h4⟩ := id hrow'
  obtain ⟨i, hi1, hi2, hi3, hi4⟩ := info_of hT
  have hcl := ok.len hy
  refine wpList_plain hgd fun K hK => ?_
  refine wp_append_lies _ s x ST ho base T i z k bytes hST hi1 hi2 hi3 hi4 hz hk v l.length css.flatten hs h3
    ⟨w.heap.size, 0, none⟩ 1 1 cs hx (by omega) (World.news_of_block (cs := cs.toArray) (t := T) (fr := (0, 0)) (heap_alloc_new w _)) (ok.one hy)
    (by omega) (by unfold maxLen; omega) (Nat.le_trans (Nat.mul_le_mul (show l.length + 1 ≤ 1000001 by omega) hby) (by omega)) (Nat.le_trans hbase hb1.size) _ rfl ?_
  intro g' cap' w' hown hgrow hat hlt
  refine hK _ _ (h g' cap' w' ?_ ?_ ?_ (Nat.le_trans hb1.size hgrow.size))
  · refine OwnR.grown (l' := [y]) (ds := [cs]) ok ⟨h1, h2, h4⟩ ⟨rfl, by simpa using hcl, fun i x ds hx hd => ?_⟩ (by simpa using hown) hgrow hat
    match i, hx, hd with
    | 0, hx, hd =>
      cases hx; cases hd
      exact ok.kept hy (keptOn_below hb1 |>.mono (fun b h => h.2.1)) (fun b h => ⟨h.1, Nat.lt_of_lt_of_le h.2.1 hb1.size, h.2.2⟩)
  · intro B w0 hB hb
    refine (hb.alloc (by omega) _).grown hgrow (by have := hb1.size; omega) (fun k hk => ?_)
    have := h3.lt k hk
    omega
  · intro b hb
    exact (hgrow.block b (Nat.lt_of_lt_of_le hb.1 hb1.size) (fun e => hb.2 e.symm)).trans (hb1.block b hb.1)

/-- append of one record to a row of the call's own -/
theorem wpList_append_rec {ops : Array Oper} {rest : List Oper} {o : Oper} {a : Act} {Q : Exit → Act → World → Prop} {W : World} {α : Type} {R : Rep α} {k : Nat} (ok : RepOk k R) {T ST : TypeId} {z : Value} {bytes : Nat} (hST : Tryz.prog.underlying ST = some (.slice T)) (hT : (Tryz.prog.info? T).map (fun i => (i.zero, i.size, i.bytes)) = some (some z, k, bytes)) (hz : z.cells.size = k) (hk : 0 < k) (hby : bytes ≤ 10000)
    (hgd : o.guard = none) (s x : Operand)
    (ho : o.op = .call { callee := .builtin .append, args := #[s, x], argTypes := #[ST, ST] }) (base : Nat) (w : World) (v : Value) (l : List α) (y : α) (cs : List Value)
    (hs : a.eval s = v) (hrow : OwnR R k T base w v l) (hW : W = w.alloc (.cells cs.toArray T)) (hx : a.eval x = .slice (some ⟨w.heap.size, 0, none⟩) 1 1) (hy : R (fun b => base ≤ b ∧ b < w.heap.size ∧ v.ownBlock ≠ some b) w y cs) (hlen : l.length ≤ 1000000) (hbase : base ≤ w.heap.size)
    (h : ∀ g cap w', OwnR R k T base w' (.slice (some ⟨g, 0, none⟩) (l.length + 1) cap) (l ++ [y]) → (∀ B w0, B ≤ base → Below B w0 w → Below B w0 w') → wpList Tryz.prog ops Q rest (a.put o.dst (.slice (some ⟨g, 0, none⟩) (l.length + 1) cap)) w') :
    wpList Tryz.prog ops Q (o :: rest) a W :=
  wpList_append_rec2 ok hST hT hz hk hby hgd s x ho base w v l y cs hs hrow hW hx hy hlen hbase (fun g cap w' h1 h2 _ _ => h g cap w' h1 h2)


/-- a store behind an allocation -/
theorem setCell_alloc (w : World) (cs : Array Value) (T : TypeId) (i : Nat) (v : Value) : (w.alloc (.cells cs T)).setCell ⟨w.heap.size, i, none⟩ v = w.alloc (.cells (cs.setIfInBounds i v) T) := by
  have e : (w.heap.push (Obj.cells cs T)).modify w.heap.size (fun o => match o with | .cells cs t fr => .cells (cs.setIfInBounds i v) t fr | o => o) = w.heap.push (Obj.cells (cs.setIfInBounds i v) T) := by
    apply Array.ext
    · simp
    · intro j h1 h2
      rw [Array.getElem_modify, Array.getElem_push, Array.getElem_push]
      by_cases hj : j < w.heap.size
      · rw [if_neg (by omega), dif_pos hj, dif_pos hj]
      · have : w.heap.size = j := by simp at h2; omega
        rw [if_pos this, dif_neg hj, dif_neg hj]
  show ({ w.alloc (.cells cs T) with heap := _ } : World) = { w with heap := _ }
  rw [← e]
  rfl
theorem setCells_alloc : ∀ (vs : List Value) (w : World) (pre old post : List Value) (T : TypeId), old.length = vs.length → (w.alloc (.cells (pre ++ old ++ post).toArray T)).setCells w.heap.size pre.length vs = w.alloc (.cells (pre ++ vs ++ post).toArray T)
  | [], w, pre, old, post, T, h => by
    obtain rfl : old = [] := List.length_eq_zero_iff.1 h
    rfl
  | v :: vs, w, pre, o :: old, post, T, h => by
    rw [World.setCells, setCell_alloc]
    have e : ((pre ++ o :: old ++ post).toArray.setIfInBounds pre.length v) = ((pre ++ [v]) ++ old ++ post).toArray := by
      rw [List.setIfInBounds_toArray, List.append_assoc, List.set_append, if_neg (by omega), Nat.sub_self]
      simp
    rw [e]
    have := setCells_alloc vs w (pre ++ [v]) old post T (by simpa using h)
    rw [List.length_append] at this
    simpa using this
theorem wpList_taken {P : Program} {ops : Array Oper} {Q : Exit → Act → World → Prop} {a : Act} {w : World} {rest : List Oper} {o : Oper} (hw : Region.wanted o (yielded ops a.tmps) = true)
    (h : ∀ K : Act → World → Prop, (∀ a w, wpList P ops Q rest a w → K a w) → o.wp P a w K Q) : wpList P ops Q (o :: rest) a w :=
  wpList_step fun K hK => by rw [if_pos hw]; exact h K hK
end Go.Proofs.YtpicmhbjiaegpaaGreatDoor

namespace Go.Proofs.YtpicmhbjiaegpaaGreatDoor
open Go.RowKit

abbrev bs (l : List UInt8) : ByteArray := ⟨l.toArray⟩
theorem bs_data (l : List UInt8) : (bs l).data.toList = l := rfl
theorem bs_size (l : List UInt8) : (bs l).size = l.length := rfl
theorem bs_of (s : ByteArray) : bs s.data.toList = s := rfl
theorem bs_append (a b : List UInt8) : bs a ++ bs b = bs (a ++ b) := by
  apply ByteArray.ext; simp
theorem bs_inj {a b : List UInt8} : bs a = bs b ↔ a = b := ⟨fun h => congrArg (fun s => s.data.toList) h, fun h => by rw [h]⟩

theorem Tryz.infoByte : (Tryz.prog.info? 5).map (fun i => (i.zero, i.size, i.bytes)) = some (some (.int .u8 0), 1, 1) := by kernel_rfl

theorem byteCells_snoc (l : List UInt8) (b : UInt8) : Lib.byteCells (l ++ [b]) = Lib.byteCells l ++ [.int .u8 b.toNat] := by simp [Lib.byteCells]

/-- append of one byte to a row of the call's own -/
theorem wpList_append_byte {ops : Array Oper} {rest : List Oper} {o : Oper} {a : Act} {Q : Exit → Act → World → Prop} {W : World} (hgd : o.guard = none) (s x : Operand) (t : TypeId)
    (ho : o.op = .call { callee := .builtin .append, args := #[s, x], argTypes := #[t, t] }) (ht : Tryz.prog.underlying t = some (.slice 5))
    (base : Nat) (w : World) (va : Option Addr) (n vc : Nat) (l : List UInt8) (y : Int) (b : UInt8) (hs : a.eval s = .slice va n vc) (hown : w.ownsRow base 5 1 (.slice va n vc) n (Lib.byteCells l))
    (hW : W = w.alloc (.cells #[.int .u8 y] 5)) (hy : y = (b.toNat : Int)) (hx : a.eval x = .slice (some ⟨w.heap.size, 0, none⟩) 1 1) (hn : n ≤ 10000000) (hbase : base ≤ w.heap.size)
    (h : ∀ va' vc' w', w'.ownsRow base 5 1 (.slice va' (n + 1) vc') (n + 1) (Lib.byteCells (l ++ [b])) → (∀ B w0, B ≤ base → Below B w0 w → Below B w0 w') → (∀ k, k < base → w'.heap[k]? = w.heap[k]?) → w.heap.size < w'.heap.size → wpList Tryz.prog ops Q rest (a.put o.dst (.slice va' (n + 1) vc')) w') :
    wpList Tryz.prog ops Q (o :: rest) a W := by
  subst hW hy
  refine wpList_append_cells hgd s x t ho base 5 (.int .u8 0) 1 1 ht Tryz.infoByte (by simp [Value.cells]) (by omega) _ n _ hs (ownsRow_below hown ((Below.refl _ _).alloc (Nat.le_refl _) _)) _ 1 1 [.int .u8 b.toNat] hx rfl ?_ (by simp [Value.oneCell']) (fun e => by cases e) (by omega) (by omega) (by simp; omega) ?_
  · intro _
    refine ⟨w.heap.size, 0, rfl, fun j u hj => ?_⟩
    match j, hj with
    | 0, hj => cases hj; exact World.cell?_alloc_at _ _ _ _ rfl
  · intro v' w' h2 h3
    rw [← byteCells_snoc] at h2
    obtain ⟨va', vc', rfl⟩ := owns_slice h2
    exact h va' vc' w' h2 (fun B w0 hB hb => grown_below hb hown h3 hB hbase) (fun k hk => grown_old hown h3 hk hbase) (by have := h3.size; simp at this; omega)

theorem madeBytes (n : Nat) : madeCells (Value.int .u8 0).cells n = (Lib.byteCells (List.replicate n 0)).toArray := by
  apply Array.ext
  · simp [madeCells, Lib.byteCells]
  · intro i h1 h2
    simp [madeCells, Value.cells, Nat.mod_one, Lib.byteCells]

theorem wpList_make_bytes {w : World} {ops : Array Oper} {rest : List Oper} {o : Oper} {a : Act} {Q : Exit → Act → World → Prop}
    (hg : o.guard = none) (l c : Operand) (t : TypeId) (hop : o.op = Op.makeSlice t l c) (ht : Tryz.prog.underlying t = some (.slice 5))
    (L : Int) (n : Nat) (hl : a.eval l = .int .i64 L) (hc : a.eval c = .int .i64 L) (hL : L = (n : Int)) (hn : n ≤ 10000000000000)
    (hK : ∀ w', Cells w' w.heap.size (Lib.byteCells (List.replicate n 0)) 5 → Below w.heap.size w w' → w.heap.size < w'.heap.size → wpList Tryz.prog ops Q rest (a.put o.dst (.slice (some ⟨w.heap.size, 0, none⟩) n n)) w') :
    wpList Tryz.prog ops Q (o :: rest) a w := by
  refine wpList_plain hg fun K hK' => ?_
  obtain ⟨i, hi, hz, hs, hb⟩ := info_of Tryz.infoByte
  subst hL
  have hr := run_make (P := Tryz.prog) w t 5 i _ ht hi hz .i64 .i64 (n : Int) (n : Int) (by omega) (by omega) (by rw [hb]; omega) (by omega)
  rw [hs, Int.toNat_natCast, Nat.mul_one, madeBytes] at hr
  unfold Oper.wp
  simp [execOp, hop, hl, hc, hr, Result.andThen]
  refine hK' _ _ (hK _ ?_ ((Below.refl _ _).alloc (Nat.le_refl _) _) (by simp))
  refine ⟨[], ?_⟩
  rw [heap_alloc_new]
  simp

/-- a list filled from the front -/
def filled (l : List UInt8) (i : Nat) : List UInt8 := l.take i ++ List.replicate (l.length - i) 0
theorem filled_zero (l : List UInt8) : filled l 0 = List.replicate l.length 0 := by simp [filled]
theorem filled_all (l : List UInt8) : filled l l.length = l := by simp [filled]
theorem filled_length (l : List UInt8) {i : Nat} (h : i ≤ l.length) : (filled l i).length = l.length := by simp [filled]; omega
theorem filled_set (l : List UInt8) {i : Nat} (h : i < l.length) : (filled l i).set i (l.getD i 0) = filled l (i + 1) := by
  unfold filled
  have e : l.length - i = (l.length - (i + 1)) + 1 := by omega
  have hl : (l.take i).length = i := by rw [List.length_take]; omega
  rw [List.set_append, if_neg (by omega), hl, Nat.sub_self, e, List.replicate_succ, List.set_cons_zero, List.take_succ_eq_append_getElem h, List.getD_eq_getElem?_getD, List.getElem?_eq_getElem h]
  simp only [Option.getD_some, List.append_assoc, List.singleton_append]
theorem byteCells_set (l : List UInt8) (i : Nat) (b : UInt8) : (Lib.byteCells l).set i (.int .u8 b.toNat) = Lib.byteCells (l.set i b) := by
  unfold Lib.byteCells; rw [List.map_set]

/-- the first ones of a row of the call's own -/
theorem ownsRow_take {w : World} {base : Nat} {e : TypeId} {a : Option Addr} {n m c : Nat} {xs : List Value} (h : w.ownsRow base e 1 (.slice a n c) n xs) (hm : m ≤ n) (h0 : 0 < n) : w.ownsRow base e 1 (.slice a m c) m (xs.take m) := by
  obtain ⟨l, r⟩ := h
  refine ⟨by rw [List.length_take, l]; omega, Or.inr ?_⟩
  rcases r with ⟨e, h1⟩ | ⟨g, cap, cur, e, q1, q2, q3, q4, q5, q6⟩
  · omega
  · cases e
    refine ⟨g, c, cur, rfl, q1, q2, by omega, q4, q5, ?_⟩
    rw [← q6, List.take_take]; congr 1; omega
/-- a byte of a row of the call's own -/
theorem owns_byte {w : World} {base : Nat} {e : TypeId} {a : Option Addr} {n c : Nat} {l : List UInt8} (h : w.ownsRow base e 1 (.slice a n c) n (Lib.byteCells l)) {j : Nat} (hj : j < l.length) :
    ∃ g, a = some ⟨g, 0, none⟩ ∧ base ≤ g ∧ w.cell? ⟨g, j, none⟩ = some (.int .u8 (l.getD j 0).toNat) ∧ n = l.length := by
  have hl := h.1
  rw [Lib.byteCells_length] at hl
  rcases (owns_cells h).2 with ⟨e, h0⟩ | ⟨g, cap, e, hg, hcap, hcells⟩
  · omega
  · cases e
    refine ⟨g, rfl, hg, ?_, by omega⟩
    rw [hcells.cell (j := j) (by rw [Lib.byteCells_length]; exact hj)]
    simp [Lib.byteCells, List.getD_eq_getElem?_getD, List.getElem?_eq_getElem hj]
end Go.Proofs.YtpicmhbjiaegpaaGreatDoor

namespace Go.Proofs.YtpicmhbjiaegpaaGreatDoor
open Go.Lib

/-! ### one byte searched for -/
theorem index1_none (c : UInt8) : ∀ (A : List UInt8), (∀ b ∈ A, b ≠ c) → index A [c] = -1
  | [], _ => rfl
  | b :: A, h => by
    have ih := index1_none c A (fun d hd => h d (List.mem_cons_of_mem _ hd))
    have hb := h b List.mem_cons_self
    have hp : ([c] : List UInt8).isPrefixOf (b :: A) = false := by
      show ((c : UInt8) == b && _) = false
      rw [Bool.and_eq_false_iff]
      exact Or.inl (beq_eq_false_iff_ne.2 (fun e => hb e.symm))
    rw [index, hp, ih]; rfl
theorem index1_at (c : UInt8) : ∀ (A f : List UInt8), (∀ b ∈ A, b ≠ c) → index (A ++ c :: f) [c] = A.length
  | [], f, _ => by
    have hp : ([c] : List UInt8).isPrefixOf (c :: f) = true := by
      show ((c : UInt8) == c && _) = true
      simp
    rw [List.nil_append, index, hp]; rfl
  | b :: A, f, h => by
    have ih := index1_at c A f (fun d hd => h d (List.mem_cons_of_mem _ hd))
    have hb := h b List.mem_cons_self
    have hp : ([c] : List UInt8).isPrefixOf (b :: (A ++ c :: f)) = false := by
      show ((c : UInt8) == b && _) = false
      rw [Bool.and_eq_false_iff]
      exact Or.inl (beq_eq_false_iff_ne.2 (fun e => hb e.symm))
    have hm : ((A.length : Int) == -1) = false := by rw [beq_eq_false_iff_ne]; omega
    rw [List.cons_append, index, hp, ih, hm, List.length_cons]
    simp
/-- a list parted at the first c -/
theorem parted (c : UInt8) : ∀ (l : List UInt8), (∀ b ∈ l, b ≠ c) ∨ ∃ A f, (∀ b ∈ A, b ≠ c) ∧ l = A ++ c :: f
  | [] => Or.inl (by simp)
  | b :: l => by
    by_cases hb : b = c
    · exact Or.inr ⟨[], l, by simp, by rw [hb]; rfl⟩
    · rcases parted c l with h | ⟨A, f, h, e⟩
      · exact Or.inl (by simp only [List.mem_cons, forall_eq_or_imp]; exact ⟨hb, h⟩)
      · exact Or.inr ⟨b :: A, f, by simp only [List.mem_cons, forall_eq_or_imp]; exact ⟨hb, h⟩, by rw [e]; rfl⟩
theorem linesOf_none : ∀ (l w : List UInt8), (∀ b ∈ l, b ≠ 10) → linesOf w l = [w ++ l]
  | [], w, _ => by simp [linesOf]
  | b :: l, w, h => by
    have hb : (b == 10) = false := beq_eq_false_iff_ne.2 (h b List.mem_cons_self)
    rw [linesOf, hb, if_neg (by simp), linesOf_none l _ (fun d hd => h d (List.mem_cons_of_mem _ hd))]; simp
theorem linesOf_at : ∀ (A w f : List UInt8), (∀ b ∈ A, b ≠ 10) → linesOf w (A ++ 10 :: f) = (w ++ A) :: linesOf [] f
  | [], w, f, _ => by simp [linesOf]
  | b :: A, w, f, h => by
    have hb : (b == 10) = false := beq_eq_false_iff_ne.2 (h b List.mem_cons_self)
    rw [List.cons_append, linesOf, hb, if_neg (by simp), linesOf_at A _ f (fun d hd => h d (List.mem_cons_of_mem _ hd))]; simp
theorem count_at (c : UInt8) {A f : List UInt8} (h : ∀ b ∈ A, b ≠ c) : count (A ++ c :: f) [c] = 1 + count f [c] := by
  rw [count_hit (i := A.length) (by simp) (index1_at c A f h)]
  congr 2
  rw [show A.length + ([c] : List UInt8).length = A.length + 1 from rfl, ← List.drop_drop, List.drop_left]; rfl
theorem split_lines : ∀ (n : Nat) (l : List UInt8), l.length ≤ n → splitK [10] 0 (count l [10]) l = linesOf [] l
  | n, l, hn => by
    rcases parted 10 l with h | ⟨A, f, h, rfl⟩
    · rw [count_miss (index1_none 10 l h), linesOf_none l _ h]; rfl
    · match n, hn with
      | 0, hn => simp at hn
      | n + 1, hn =>
        have hm : ((A.length : Int) == -1) = false := by rw [beq_eq_false_iff_ne]; omega
        rw [count_at 10 h, Nat.add_comm, splitK, index1_at 10 A f h, hm, if_neg (by simp), linesOf_at A _ f h, Int.toNat_natCast, Nat.add_zero, List.take_left]
        rw [show A.length + ([10] : List UInt8).length = A.length + 1 from rfl, ← List.drop_drop, List.drop_left]
        rw [show List.drop 1 (10 :: f) = f from rfl, split_lines n f (by simp at hn; omega)]; rfl
theorem splitB_lines (l : List UInt8) : (splitB (bs [10]) 0 (countB (bs l) (bs [10])) (bs l)) = (linesOf [] l).map bs := by
  have h := splitB_data (bs [10]) 0 (countB (bs l) (bs [10])) (bs l)
  rw [show countB (bs l) (bs [10]) = count l [10] from rfl] at h ⊢
  rw [show (bs [10]).data.toList = [10] from rfl, show (bs l).data.toList = l from rfl, split_lines l.length l (Nat.le_refl _)] at h
  rw [← h, List.map_map]
  exact (List.map_id'' (fun x => rfl) _).symm
theorem count_lines : ∀ (n : Nat) (l : List UInt8), l.length ≤ n → (linesOf [] l).length = count l [10] + 1
  | n, l, hn => by
    rcases parted 10 l with h | ⟨A, f, h, rfl⟩
    · rw [count_miss (index1_none 10 l h), linesOf_none l _ h]; rfl
    · match n, hn with
      | 0, hn => simp at hn
      | n + 1, hn => rw [count_at 10 h, linesOf_at A _ f h, List.length_cons, count_lines n f (by simp at hn; omega)]; omega

/-! ### words -/
theorem bs_ext (l : List UInt8) (a b : Nat) : (bs l).extract a b = bs ((l.drop a).take (b - a)) := by
  apply ByteArray.ext
  apply Array.ext'
  simp [ByteArray.data_extract, List.take_drop]
def spR (r : Nat) : Bool := r == 32 || r == 9
theorem isSp_iff (b : UInt8) : isSp b = spR b.toNat := by
  unfold isSp spR
  rw [Bool.eq_iff_iff]
  simp only [Bool.or_eq_true, beq_iff_eq]
  constructor
  · rintro (rfl | rfl)
    · exact Or.inl rfl
    · exact Or.inr rfl
  · rintro (h | h)
    · exact Or.inl (UInt8.toNat.inj h)
    · exact Or.inr (UInt8.toNat.inj h)
theorem spR_iff (r : Nat) : spR r = true ↔ r = 32 ∨ r = 9 := by unfold spR; simp
theorem spR_no (r : Nat) : spR r = false ↔ r ≠ 32 ∧ r ≠ 9 := by
  unfold spR
  rw [Bool.or_eq_false_iff, beq_eq_false_iff_ne, beq_eq_false_iff_ne]
theorem decN_sp (n b0 b1 b2 b3 : Nat) : spR (decodeN n b0 b1 b2 b3).1 = true → (decodeN n b0 b1 b2 b3).2 = 1 ∧ (b0 = 32 ∨ b0 = 9) := by
  rw [spR_iff]
  unfold decodeN
  repeat' split
  all_goals first
    | (intro h; exact ⟨rfl, h⟩)
    | (intro h; simp only at h; omega)
theorem decN_no (n b0 b1 b2 b3 : Nat) : spR (decodeN n b0 b1 b2 b3).1 = false → b0 ≠ 32 ∧ b0 ≠ 9 := by
  rw [spR_no]
  unfold decodeN
  repeat' split
  all_goals (intro h; simp only at h; omega)
theorem sp_cont {b : UInt8} (h : b.toNat / 64 = 2) : isSp b = false := by
  rw [isSp_iff, spR_no]; omega
theorem dec_sp {l : List UInt8} {pos : Nat} (h : spR (Utf8.decode (bs l) pos).1 = true) : (Utf8.decode (bs l) pos).2 = 1 ∧ isSp (l.getD pos 0) = true := by
  rw [decode_N] at h ⊢
  obtain ⟨h1, h2⟩ := decN_sp _ _ _ _ _ h
  refine ⟨h1, ?_⟩
  rw [isSp_iff, spR_iff]; exact h2
theorem dec_no {l : List UInt8} {pos : Nat} (hp : pos < l.length) (h : spR (Utf8.decode (bs l) pos).1 = false) : pos + (Utf8.decode (bs l) pos).2 ≤ l.length ∧ 1 ≤ (Utf8.decode (bs l) pos).2 ∧ ∀ j, j < (Utf8.decode (bs l) pos).2 → isSp (l.getD (pos + j) 0) = false := by
  rw [decode_N] at h ⊢
  rw [show (bs l).data.toList = l from rfl] at h ⊢
  have h1 := decN_no _ _ _ _ _ h
  have h2 := decodeN_le_n' (l.length - pos) (l.getD pos 0).toNat (l.getD (pos + 1) 0).toNat (l.getD (pos + 2) 0).toNat (l.getD (pos + 3) 0).toNat (by omega)
  obtain ⟨c1, c2, c3, c4⟩ := decodeN_conts (l.length - pos) (l.getD pos 0).toNat (l.getD (pos + 1) 0).toNat (l.getD (pos + 2) 0).toNat (l.getD (pos + 3) 0).toNat
  have h5 := decodeN_ge1 (l.length - pos) (l.getD pos 0).toNat (l.getD (pos + 1) 0).toNat (l.getD (pos + 2) 0).toNat (l.getD (pos + 3) 0).toNat
  refine ⟨by omega, h5, fun j hj => ?_⟩
  match j, hj with
  | 0, _ => rw [Nat.add_zero, isSp_iff, spR_no]; exact h1
  | 1, hj => exact sp_cont (c1 (by omega)).1
  | 2, hj => exact sp_cont (c2 (by omega)).1
  | 3, hj => exact sp_cont (c3 (by omega)).1
  | j + 4, hj => omega
theorem wordsOf_sp {w l : List UInt8} {b : UInt8} (h : isSp b = true) : wordsOf w (b :: l) = (if w = [] then [] else [w]) ++ wordsOf [] l := by
  rw [wordsOf, h, if_pos rfl]
  split <;> simp
theorem wordsOf_take : ∀ (k : Nat) (w l : List UInt8), k ≤ l.length → (∀ j, j < k → isSp (l.getD j 0) = false) → wordsOf w l = wordsOf (w ++ l.take k) (l.drop k)
  | 0, w, l, _, _ => by simp
  | k + 1, w, [], h, _ => by simp at h
  | k + 1, w, b :: l, h, hs => by
    have h0 := hs 0 (by omega)
    rw [List.getD_cons_zero] at h0
    rw [wordsOf, h0, if_neg (by simp), wordsOf_take k (w ++ [b]) l (by simp at h; omega) (fun j hj => by have := hs (j + 1) (by omega); rwa [List.getD_cons_succ] at this)]
    simp
def begun (l : List UInt8) (pos : Nat) : Option Nat → List UInt8
  | none => []
  | some a => (l.drop a).take (pos - a)
theorem getD_drop' (l : List UInt8) (p j : Nat) : (l.drop p).getD j 0 = l.getD (p + j) 0 := by simp [List.getD, List.getElem?_drop]
theorem drop_cons {l : List UInt8} {pos : Nat} (h : pos < l.length) : l.drop pos = l.getD pos 0 :: l.drop (pos + 1) := by
  rw [List.drop_eq_getElem_cons h, List.getD_eq_getElem?_getD, List.getElem?_eq_getElem h]; rfl
theorem take_more (l : List UInt8) (a pos k : Nat) (h : a ≤ pos) : (l.drop a).take (pos - a) ++ (l.drop pos).take k = (l.drop a).take (pos + k - a) := by
  have e : l.drop pos = (l.drop a).drop (pos - a) := by rw [List.drop_drop]; congr 1; omega
  rw [e, show pos + k - a = (pos - a) + k by omega, List.take_add]
theorem spans_words (l : List UInt8) : ∀ (f pos : Nat) (st : Option Nat) (acc : List (Nat × Nat)), l.length ≤ pos + f → pos ≤ l.length → (∀ a, st = some a → a < pos) →
    (closeSpans (bs l) (spansFromP spR (bs l) f pos st acc)).map (fun x => (bs l).extract x.1 x.2) = acc.map (fun x => (bs l).extract x.1 x.2) ++ (wordsOf (begun l pos st) (l.drop pos)).map bs := by
  have hend : ∀ (pos : Nat) (st : Option Nat) (acc : List (Nat × Nat)), pos = l.length → (∀ a, st = some a → a < pos) →
      (closeSpans (bs l) (acc, st)).map (fun x => (bs l).extract x.1 x.2) = acc.map (fun x => (bs l).extract x.1 x.2) ++ (wordsOf (begun l pos st) (l.drop pos)).map bs := by
    intro pos st acc hp hst
    subst hp
    rw [List.drop_length]
    cases st with
    | none => simp [closeSpans, begun, wordsOf]
    | some a =>
      have ha := hst a rfl
      have hne : ¬ begun l l.length (some a) = [] := by
        intro e
        have := congrArg List.length e
        simp [begun] at this; omega
      simp only [closeSpans, wordsOf]
      rw [if_neg hne, List.map_append, List.map_cons, List.map_nil, bs_ext]; rfl
  intro f
  induction f with
  | zero =>
    intro pos st acc hl hp hst
    exact hend pos st acc (by omega) hst
  | succ f ih =>
    intro pos st acc hl hp hst
    by_cases hlt : pos < l.length
    · have hsz : pos < (bs l).size := hlt
      cases hs : spR (Utf8.decode (bs l) pos).1
      · obtain ⟨k1, k2, k3⟩ := dec_no hlt hs
        have hw := wordsOf_take (Utf8.decode (bs l) pos).2 (begun l pos st) (l.drop pos) (by rw [List.length_drop]; omega) (fun j hj => by rw [getD_drop']; exact k3 j hj)
        rw [List.drop_drop] at hw
        rw [hw]
        cases st with
        | none =>
          rw [spansFromP, if_pos hsz, hs, if_neg (by simp)]
          rw [ih _ _ _ (by omega) (by omega) (fun a ha => by cases ha; omega)]
          simp only [begun, List.nil_append]
          congr 4
          omega
        | some a =>
          rw [spansFromP, if_pos hsz, hs, if_neg (by simp)]
          have ha := hst a rfl
          rw [ih _ _ _ (by omega) (by omega) (fun b hb => by cases hb; omega)]
          simp only [begun]
          rw [take_more l a pos _ (by omega)]
      · obtain ⟨k1, k2⟩ := dec_sp hs
        rw [drop_cons hlt, wordsOf_sp k2]
        cases st with
        | none =>
          rw [spansFromP, if_pos hsz, hs, if_pos rfl]
          rw [k1, ih _ _ _ (by omega) (by omega) (fun a ha => by cases ha)]
          simp [begun]
        | some a =>
          rw [spansFromP, if_pos hsz, hs, if_pos rfl]
          have ha := hst a rfl
          have hne : ¬ begun l pos (some a) = [] := by
            intro e
            have := congrArg List.length e
            simp [begun] at this; omega
          rw [k1, ih _ _ _ (by omega) (by omega) (fun a ha => by cases ha)]
          rw [if_neg hne, List.map_append, List.map_append, List.map_cons, List.map_nil, List.append_assoc, bs_ext]; rfl
    · rw [spansFromP_end _ _ _ _ _ _ (show ¬ pos < (bs l).size from hlt)]
      exact hend pos st acc (by omega) hst
theorem fields_words (l : List UInt8) : goFieldsP spR (bs l) = (wordsOf [] l).map bs := by
  have h := spans_words l l.length 0 none [] (by omega) (Nat.zero_le _) (fun a h => by cases h)
  unfold goFieldsP spansOfP
  rw [show (bs l).size = l.length from rfl, h]
  simp [begun]
end Go.Proofs.YtpicmhbjiaegpaaGreatDoor

namespace Go.Proofs.YtpicmhbjiaegpaaGreatDoor
open Go.Lib

/-! ### lines -/
theorem join_mem : ∀ (ws : List (List UInt8)) (b : UInt8), b ∈ joinT ws → b = 32 ∨ ∃ w ∈ ws, b ∈ w
  | [], b, h => by simp [joinT] at h
  | [w], b, h => Or.inr ⟨w, List.mem_cons_self, h⟩
  | w :: v :: ws, b, h => by
    rw [joinT, List.mem_append, List.mem_cons] at h
    rcases h with h | h | h
    · exact Or.inr ⟨w, List.mem_cons_self, h⟩
    · exact Or.inl h
    · rcases join_mem (v :: ws) b h with h | ⟨u, hu, hb⟩
      · exact Or.inl h
      · exact Or.inr ⟨u, List.mem_cons_of_mem _ hu, hb⟩
theorem line_no10 {x : Opd} (h : opdOk x = true) : ∀ b ∈ lineT x, b ≠ 10 := by
  intro b hb
  rcases join_mem _ b hb with rfl | ⟨w, hw, hb⟩
  · decide
  · exact ((wordOk_all h w hw).2 b hb).2.1
theorem line_words {x : Opd} (h : opdOk x = true) : wordsOf [] (lineT x) = wordsT x := words_join _ (wordOk_all h)
theorem skip_no {ws : List (List UInt8)} {w : List UInt8} (h : wordOk w) : skipL (w :: ws) = false := by
  cases w with
  | nil => exact absurd rfl h.1
  | cons b w =>
    have := (h.2 b List.mem_cons_self).2.2
    show ((b :: w).head? == some 35) = false
    rw [beq_eq_false_iff_ne]
    intro e
    exact this (Option.some.inj e)
theorem line_skip {x : Opd} (h : opdOk x = true) : skipL (wordsOf [] (lineT x)) = false := by
  rw [line_words h]
  exact skip_no (wordOk_all h x.nm (by unfold wordsT; exact List.mem_cons_self))
theorem opdsT_cons (x : Opd) (l : List Opd) : opdsT (x :: l) = lineT x ++ 10 :: opdsT l := by
  unfold opdsT
  rw [List.map_cons, List.flatten_cons, List.append_assoc]; rfl
theorem opdsT_append (l m : List Opd) : opdsT (l ++ m) = opdsT l ++ opdsT m := by
  unfold opdsT
  rw [List.map_append, List.flatten_append]
theorem lines_text : ∀ (l : List Opd) (t : List UInt8), (∀ x ∈ l, opdOk x = true) → linesOf [] (opdsT l ++ t) = l.map lineT ++ linesOf [] t
  | [], t, _ => by simp [opdsT]
  | x :: l, t, h => by
    rw [opdsT_cons, List.append_assoc, List.cons_append, linesOf_at _ _ _ (line_no10 (h x List.mem_cons_self)), lines_text l t (fun y hy => h y (List.mem_cons_of_mem _ hy))]; rfl
theorem read_lines : ∀ (l acc : List Opd) (i : Nat) (ss : List (List UInt8)), (∀ x ∈ l, opdOk x = true ∧ x.ag.length = 5) → acc.length + l.length ≤ 12 → readLines i acc (l.map lineT ++ ss) = readLines (i + l.length) (acc ++ l) ss
  | [], acc, i, ss, _, _ => by simp
  | x :: l, acc, i, ss, h, hl => by
    have hx := h x List.mem_cons_self
    rw [List.length_cons] at hl
    rw [List.map_cons, List.cons_append, readLines, line_skip hx.1, if_neg (by simp), line_words hx.1, read_text hx.1 hx.2]
    simp only
    rw [if_neg (by omega), read_lines l _ _ ss (fun y hy => h y (List.mem_cons_of_mem _ hy)) (by simp; omega)]
    rw [List.length_cons, List.append_assoc, show i + 1 + l.length = i + (l.length + 1) by omega]; rfl
theorem opdsOk_all {l : List Opd} (h : opdsOk l = true) : l.length ≤ 12 ∧ ∀ x ∈ l, opdOk x = true := by
  unfold opdsOk at h
  rw [Bool.and_eq_true] at h
  exact ⟨of_decide_eq_true h.1, List.all_eq_true.1 h.2⟩
/-- texts of lists, and what comes behind -/
theorem readT_more {l : List Opd} (h : opdsOk l = true) (h5 : ∀ x ∈ l, x.ag.length = 5) (t : List UInt8) (hl : (opdsT l ++ t).length ≤ 4000) : readT (opdsT l ++ t) = readLines l.length l (linesOf [] t) := by
  obtain ⟨h1, h2⟩ := opdsOk_all h
  unfold readT
  rw [if_neg (by omega), lines_text l t h2, read_lines l [] 0 _ (fun x hx => ⟨h2 x hx, h5 x hx⟩) (by simpa using h1)]
  simp
theorem readLines_end (i : Nat) (acc : List Opd) : readLines i acc (linesOf [] []) = .ok acc := rfl
theorem readT_text {l : List Opd} (h : opdsOk l = true) (h5 : ∀ x ∈ l, x.ag.length = 5) (hl : (opdsT l).length ≤ 4000) : readT (opdsT l) = .ok l := by
  have := readT_more h h5 [] (by simpa using hl)
  rw [List.append_nil] at this
  rw [this, readLines_end]

/-! ### what is read is valid -/
theorem numOf_in {s : List UInt8} {lo hi n : Int} {d : Nat} (h : numOf s lo hi d = some n) : inR n lo hi = true := by
  unfold numOf at h
  cases hd : decForm s with
  | none => rw [hd] at h; cases h
  | some p =>
    rw [hd] at h
    simp only at h
    split at h
    · rename_i hc
      cases h
      unfold inR
      rw [decide_eq_true hc.2.2.2.1, decide_eq_true hc.2.2.2.2]; rfl
    · cases h
theorem argsOk_zeros : ∀ n, argsOk [] (List.replicate n 0) = true
  | 0 => rfl
  | n + 1 => by rw [List.replicate_succ, argsOk, argsOk_zeros n]; rfl
theorem argsOf_ok : ∀ (ks : List Nat) (ws : List (List UInt8)) (us : List Int) (r : List (List UInt8)) (n : Nat), argsOf ks ws = some (us, r) → us.length = ks.length ∧ argsOk ks (us ++ List.replicate n 0) = true
  | [], ws, us, r, n, h => by
    rw [argsOf] at h
    cases h
    exact ⟨rfl, argsOk_zeros n⟩
  | k :: ks, [], us, r, n, h => by simp [argsOf] at h
  | k :: ks, w :: ws, us, r, n, h => by
    rw [argsOf] at h
    cases hn : numOf w (rangeOf k).1 (rangeOf k).2.1 (digitsOf k) with
    | none => rw [hn] at h; cases h
    | some m =>
      rw [hn] at h
      simp only at h
      cases hr : argsOf ks ws with
      | none => rw [hr] at h; cases h
      | some q =>
        obtain ⟨vs, r'⟩ := q
        rw [hr] at h
        simp only [Option.map_some, Option.some.injEq, Prod.mk.injEq] at h
        obtain ⟨rfl, rfl⟩ := h
        obtain ⟨h1, h2⟩ := argsOf_ok ks ws vs r' n hr
        refine ⟨by rw [List.length_cons, List.length_cons, h1], ?_⟩
        rw [List.cons_append, argsOk, numOf_in hn, h2]; rfl
theorem relOf_in {w : List UInt8} {k : Int} (h : relOf w = some k) : inR k 1 3 = true := by
  unfold relOf at h
  split at h
  · cases h; decide
  · split at h
    · cases h; decide
    · split at h
      · cases h; decide
      · cases h
theorem tailOf_ok {ws : List (List UInt8)} {t : Int × Int × Int} (h : tailOf ws = some t) : inR t.1 1 3 = true ∧ inR t.2.1 (-1000000000000) 1000000000000 = true ∧ (if t.1 = 1 then inR t.2.2 1 1000 else decide (t.2.2 = 0)) = true := by
  unfold tailOf at h
  split at h
  · rename_i r t' ws'
    split at h
    · rename_i n w e1 e2
      cases hm : numOf w 1 1000 0 with
      | none => rw [hm] at h; cases h
      | some m =>
        rw [hm] at h
        cases h
        exact ⟨relOf_in e1, numOf_in e2, by rw [if_pos rfl]; exact numOf_in hm⟩
    · cases h
    · rename_i k n e1 e2 hne
      cases h
      refine ⟨relOf_in e2, numOf_in hne, ?_⟩
      by_cases hk : k = 1
      · subst hk; rename_i e1 _; exact absurd rfl (fun h => e1 h)
      · rw [if_neg hk]; rfl
    · cases h
  · cases h
theorem kinds5 {nm : List UInt8} {ks : List Nat} (hk : kindsOf nm = some ks) : ks.length ≤ 5 := by
  unfold kindsOf at hk
  cases hf : kindTab.find? (fun e => e.1 == nm) with
  | none => rw [hf] at hk; cases hk
  | some e =>
    rw [hf] at hk
    have hm := List.mem_of_find?_eq_some hf
    have he : e.2 = ks := Option.some.inj hk
    have hall : ∀ e ∈ kindTab, e.2.length ≤ 5 := by decide
    exact he ▸ hall e hm
theorem readOf_ok {ws : List (List UInt8)} {x : Opd} (h : readOf ws = some x) : opdOk x = true ∧ x.ag.length = 5 := by
  unfold readOf at h
  split at h
  · cases h
  · rename_i nm ws'
    cases hk : kindsOf nm with
    | none => rw [hk] at h; cases h
    | some ks =>
      rw [hk] at h
      simp only at h
      cases ha : argsOf ks ws' with
      | none => rw [ha] at h; cases h
      | some q =>
        obtain ⟨us, r⟩ := q
        rw [ha] at h
        simp only at h
        cases ht : tailOf r with
        | none => rw [ht] at h; cases h
        | some t =>
          rw [ht] at h
          cases h
          obtain ⟨h1, h2⟩ := argsOf_ok ks ws' us r (5 - us.length) ha
          obtain ⟨h3, h4, h5⟩ := tailOf_ok ht
          have h6 := kinds5 hk
          constructor
          · unfold opdOk
            simp only
            rw [hk]
            simp only
            unfold pad5
            rw [h2, h3, h4, h5]; rfl
          · unfold pad5; simp; omega
def ReadGood (n : Nat) : ReadE → Prop
  | .ok l => l.length ≤ 12 ∧ ∀ x ∈ l, opdOk x = true ∧ x.ag.length = 5
  | .no k _ => k < n
theorem ReadGood.mono {n m : Nat} {r : ReadE} (h : ReadGood n r) (hn : n ≤ m) : ReadGood m r := by
  cases r with
  | ok l => exact h
  | no k e => exact Nat.lt_of_lt_of_le h hn
theorem readLines_ok : ∀ (ss : List (List UInt8)) (i : Nat) (acc : List Opd), acc.length ≤ 12 → (∀ x ∈ acc, opdOk x = true ∧ x.ag.length = 5) → ReadGood (i + ss.length) (readLines i acc ss)
  | [], i, acc, h, hx => ⟨h, hx⟩
  | s :: ss, i, acc, h, hx => by
    have hlen : i + 1 + ss.length ≤ i + (s :: ss).length := by rw [List.length_cons]; omega
    have hlt : i < i + (s :: ss).length := by rw [List.length_cons]; omega
    rw [readLines]
    split
    · exact (readLines_ok ss (i + 1) acc h hx).mono hlen
    · split
      · exact hlt
      · rename_i x hrx
        split
        · exact hlt
        · refine (readLines_ok ss (i + 1) (acc ++ [x]) (by simp; omega) ?_).mono hlen
          intro y hy
          rcases List.mem_append.1 hy with hy | hy
          · exact hx y hy
          · rw [List.mem_singleton] at hy; subst hy; exact readOf_ok hrx
theorem readT_ok {t : List UInt8} {l : List Opd} (h : readT t = .ok l) : opdsOk l = true ∧ ∀ x ∈ l, x.ag.length = 5 := by
  unfold readT at h
  split at h
  · cases h
  · have := readLines_ok (linesOf [] t) 0 [] (by simp) (by simp)
    rw [h] at this
    refine ⟨?_, fun x hx => (this.2 x hx).2⟩
    unfold opdsOk
    rw [decide_eq_true this.1, List.all_eq_true.2 (fun x hx => (this.2 x hx).1)]; rfl
theorem readT_no {t : List UInt8} {k : Nat} {e : Int} (h : readT t = .no k e) : k ≤ count t [10] := by
  unfold readT at h
  split at h
  · cases h; omega
  · have := readLines_ok (linesOf [] t) 0 [] (by simp) (by simp)
    rw [h] at this
    have h1 := count_lines t.length t (Nat.le_refl _)
    have h2 : k < 0 + (linesOf [] t).length := this
    omega

/-! ### lengths -/
theorem numT_le {z : Int} {d k : Nat} (hz : z.natAbs < 10 ^ (k + d)) (hk : 1 ≤ k) : (numT z d).length ≤ k + d + 2 := by
  unfold numT wholeT
  have hp : 0 < 10 ^ d := Nat.pow_pos (by omega)
  have h1 : z.natAbs / 10 ^ d < 10 ^ k := by rw [Nat.div_lt_iff_lt_mul hp, ← Nat.pow_add]; exact hz
  have h2 : (decDigits (z.natAbs / 10 ^ d)).length ≤ k := by
    rw [decDigits_length]
    exact nDigits_le_of_lt h1 hk
  have h3 := placesT_len d (z.natAbs % 10 ^ d)
  rw [List.length_append, List.length_append]
  have h4 : (if z < 0 then [45] else ([] : List UInt8)).length ≤ 1 := by split <;> simp
  have h5 : (if z.natAbs % 10 ^ d = 0 then ([] : List UInt8) else 46 :: placesT d (z.natAbs % 10 ^ d)).length ≤ d + 1 := by
    split
    · simp
    · simp; omega
  omega
theorem joinT_le {n : Nat} : ∀ (l : List (List UInt8)), (∀ x ∈ l, x.length ≤ n) → (joinT l).length ≤ l.length * (n + 1)
  | [], _ => by simp [joinT]
  | [x], h => by
    have := h x (by simp)
    simp [joinT]; omega
  | x :: y :: l, h => by
    have h1 := h x (by simp)
    have h2 := joinT_le (y :: l) (fun z hz => h z (List.mem_cons_of_mem _ hz))
    rw [joinT, List.length_append, List.length_cons, List.length_cons, Nat.succ_mul]
    omega
theorem joinT_sum : ∀ (l : List (List UInt8)), (joinT l).length ≤ (l.map fun w => w.length + 1).sum
  | [] => by simp [joinT]
  | [x] => by simp [joinT]
  | x :: y :: l => by
    have := joinT_sum (y :: l)
    rw [joinT, List.map_cons, List.sum_cons, List.length_append, List.length_cons]
    omega
end Go.Proofs.YtpicmhbjiaegpaaGreatDoor

namespace Go.Proofs.YtpicmhbjiaegpaaGreatDoor
open Go.RowKit

section
variable {B : Nat} {P : Program} {ops : Array Oper} {Q : Exit → Act → World → Prop} {md : Region.Mode}

/-- Whatever order is picked from here on; behind each operation before number n what was there is as it was. -/
def wpRB (B : Nat) (P : Program) (md : Region.Mode) (ops : Array Oper) (Q : Exit → Act → World → Prop) (n : Nat) : Nat → Array Bool → Act → World → Prop
  | 0, listed, a, w => Region.ready md ops listed = [] ∧ Q .normal a w
  | fuel + 1, listed, a, w =>
    (Region.ready md ops listed = [] → Q .normal a w) ∧
    ∀ i ∈ Region.ready md ops listed, wpOp P ops Q i (fun a' w' => (i < n → Below B w w') ∧ wpRB B P md ops Q n fuel (listed.setIfInBounds i true) a' w') a w

theorem wpAny_of_RB {n : Nat} : ∀ (fuel : Nat) (listed : Array Bool) (a : Act) (w : World), wpRB B P md ops Q n fuel listed a w → wpAny P md ops Q fuel listed a w
  | 0, _, _, _, h => h
  | fuel + 1, _, _, _, h => ⟨h.1, fun i hi => wpOp_mono (fun a' w' h' => wpAny_of_RB fuel _ a' w' h'.2) (h.2 i hi)⟩

theorem YieldsIf.stayB {o : Oper} {v : Value} {a : Act} {w w' : World} (h : YieldsIf P ops (fun x => Below B w x) o v a) (hb : Below B w w') :
    YieldsIf P ops (fun x => Below B w' x) o v a :=
  h.imp (fun ⟨h1, h2⟩ => ⟨h1, fun x hx => h2 x (hb.trans hx)⟩) id

theorem wpR_firstB {n i : Nat} {oi : Oper} {v : Value} (hi : ops[i]? = some oi) (hsel : ∀ (j : Nat) (o : Oper) cs b, ops[j]? = some o → o.op ≠ .select cs b)
    (hs : Region.sinkB md ops n = true) (hc : Region.chainB md ops n = true) (hn : n < ops.size) (hin : i < n)
    (hQ : ∀ c a w, Q (.panic c) (a.put oi.dst v) w → Q (.panic c) a w) :
    ∀ (fuel : Nat) (listed : Array Bool) (a : Act) (w : World), HeadInv md ops n listed →
      (∀ j oj, ops[j]? = some oj → j ≠ i → listed.getD j true = false → (∀ e ∈ oj.after, Region.binds md e = true → e.on ≠ i) → oi.apart ops oj = true) →
      i ∈ Region.ready md ops listed → YieldsIf P ops (fun x => Below B w x) oi v a →
      wpRB B P md ops Q n fuel (listed.setIfInBounds i true) (a.put oi.dst v) w → wpRB B P md ops Q n (fuel + 1) listed a w := by
  intro fuel
  induction fuel with
  | zero =>
    intro listed a w _ _ hr hy H
    refine ⟨fun h => (by rw [h] at hr; cases hr), fun j hj => ?_⟩
    by_cases hji : j = i
    · subst hji; exact hy.wpOp hi (Below.refl _ _) ⟨fun _ => Below.refl _ _, H⟩
    · have := ready_mono hj hji
      rw [H.1] at this
      cases this
  | succ fuel ih =>
    intro listed a w inv hfree hr hy H
    have hun := (mem_ready.1 hr).1
    refine ⟨fun h => (by rw [h] at hr; cases hr), fun j hj => ?_⟩
    have hjn : j < n := by
      rcases Nat.lt_or_ge j n with h | h
      · exact h
      · exact absurd hj (tail_waits hs hc hn inv _ i rfl hin hun j h)
    by_cases hji : j = i
    · subst hji; exact hy.wpOp hi (Below.refl _ _) ⟨fun _ => Below.refl _ _, H⟩
    · have h1 := H.2 j (ready_mono hj hji)
      obtain ⟨hjun, oj, hoj, hall⟩ := mem_ready.1 hj
      have hnot : ∀ e ∈ oj.after, Region.binds md e = true → e.on ≠ i := fun e he hb heq => by
        have h1 := hall e he hb
        rw [heq, getD_both hun] at h1
        cases h1
      have h2 := wpOp_putIf hoj (hfree j oj hoj hji hjun hnot) (fun cs b => hsel i oi cs b hi) (fun cs b => hsel j oj cs b hoj) hQ hy h1
      have hfree' : ∀ k ok, ops[k]? = some ok → k ≠ i → (listed.setIfInBounds j true).getD k true = false →
          (∀ e ∈ ok.after, Region.binds md e = true → e.on ≠ i) → oi.apart ops ok = true := fun k ok hk hki hun hno => by
        refine hfree k ok hk hki ?_ hno
        by_cases hjk : j = k
        · subst hjk; exact hjun
        · rw [getD_set_ne true hjk] at hun; exact hun
      refine wpOp_mono (fun a' w' h3 => ⟨h3.2.1, ih (listed.setIfInBounds j true) a' w' (inv.set hj hjn) hfree' (ready_mono hr (Ne.symm hji)) (YieldsIf.stayB h3.1 (h3.2.1 hjn)) ?_⟩) h2
      rw [Array.setIfInBounds_comm _ _ hji]
      exact h3.2.2

/-- the walk in the chosen order -/
def wpOrdB (B : Nat) (P : Program) (ops : Array Oper) (Q : Exit → Act → World → Prop) (n : Nat) : List (Nat × Bool) → Act → World → Prop
  | [], a, w => wpList P ops Q (ops.toList.drop n) a w
  | (i, true) :: rest, a, w => ∃ o v, ops[i]? = some o ∧ YieldsIf P ops (fun x => Below B w x) o v a ∧ (∀ c a w, Q (.panic c) (a.put o.dst v) w → Q (.panic c) a w) ∧ wpOrdB B P ops Q n rest (a.put o.dst v) w
  | (i, false) :: rest, a, w => wpOp P ops Q i (fun a' w' => Below B w w' ∧ wpOrdB B P ops Q n rest a' w') a w

theorem wpR_of_seqB {n : Nat} {Q' : Exit → Act → World → Prop} : ∀ (l : List Oper) (k : Nat) (listed : Array Bool) (a : Act) (w : World), n ≤ k → (∀ j, l[j]? = ops[k + j]?) →
    Region.seqB md ops l.length k listed = true → wpList P ops Q' l a w → wpRB B P md ops Q' n l.length listed a w
  | [], _, _, _, _, _, _, hB, h => ⟨by simpa [Region.seqB] using hB, h⟩
  | o :: l, k, listed, a, w, hk, hl, hB, h => by
    have h0 : ops[k]? = some o := by simpa using (hl 0).symm
    simp only [List.length_cons, Region.seqB, Bool.and_eq_true, decide_eq_true_eq] at hB
    refine ⟨fun h1 => (by rw [hB.1] at h1; cases h1), fun i hi => ?_⟩
    rw [hB.1] at hi
    have hik : i = k := by simpa using hi
    subst hik
    have hw : wpOp P ops Q' i (wpList P ops Q' l) a w := by unfold wpOp; simp only [h0]; exact h
    exact wpOp_mono (fun a' w' h' => ⟨fun hlt => absurd hlt (by omega), wpR_of_seqB l (i + 1) _ a' w' (by omega) (fun j => by have := hl (j + 1); simpa [Nat.add_assoc, Nat.add_comm 1 j] using this) hB.2 h'⟩) hw

theorem wpR_of_ordB {n : Nat} (hsel : Region.noSelect ops = true) (hs : Region.sinkB md ops n = true) (hc : Region.chainB md ops n = true) (hn : n < ops.size) :
    ∀ (ord : List (Nat × Bool)) (listed : Array Bool) (a : Act) (w : World), HeadInv md ops n listed → ordB md ops n ord listed = true → wpOrdB B P ops Q n ord a w →
      wpRB B P md ops Q n (ord.length + (ops.size - n)) listed a w
  | [], listed, a, w, _, hB, h => by
    have := wpR_of_seqB (B := B) (md := md) (n := n) (Q' := Q) (ops.toList.drop n) n listed a w (Nat.le_refl _) (fun j => by simp [List.getElem?_drop]) (by simpa [ordB] using hB) h
    simpa using this
  | (i, true) :: rest, listed, a, w, inv, hB, h => by
    obtain ⟨o, v, ho, hy, hQ, h⟩ := h
    simp only [ordB, if_true, Bool.and_eq_true, decide_eq_true_eq] at hB
    obtain ⟨⟨⟨h1, h2⟩, h3⟩, h4⟩ := hB
    have hr : i ∈ Region.ready md ops listed := by simpa using h1
    have := wpR_firstB ho (Region.noSelect_spec hsel) hs hc hn h3 hQ _ listed a w inv (Region.free_spec ho h2) hr hy (wpR_of_ordB hsel hs hc hn rest _ _ w (inv.set hr h3) h4 h)
    rw [List.length_cons, show rest.length + 1 + (ops.size - n) = rest.length + (ops.size - n) + 1 by omega]
    exact this
  | (i, false) :: rest, listed, a, w, inv, hB, h => by
    simp only [ordB, Bool.false_eq_true, if_false, Bool.and_eq_true, decide_eq_true_eq] at hB
    obtain ⟨⟨h1, h3⟩, h4⟩ := hB
    have hr : i ∈ Region.ready md ops listed := by rw [h1]; simp
    rw [List.length_cons, show rest.length + 1 + (ops.size - n) = rest.length + (ops.size - n) + 1 by omega]
    refine ⟨fun h0 => (by rw [h0] at h1; cases h1), fun j hj => ?_⟩
    rw [h1] at hj
    obtain rfl : j = i := by simpa using hj
    exact wpOp_mono (fun a' w' h' => ⟨fun _ => h'.1, wpR_of_ordB hsel hs hc hn rest _ a' w' (inv.set hr h3) h4 h'.2⟩) h

/-- THE BEGINNING -/
theorem wp_region_eagerB {id : Nat} {a : Act} {w : World} (n : Nat) (ord : List (Nat × Bool)) (hm : P.follows .mixedOrders = true) (hB : eagerB .any ops n ord = true)
    (h : wpOrdB B P ops Q n ord a w.drew) : (Code.region id ops true).wp P Q a w := by
  simp only [eagerB, Bool.and_eq_true, decide_eq_true_eq] at hB
  obtain ⟨⟨⟨⟨⟨hsel, hn⟩, hl⟩, hs⟩, hc⟩, ho⟩ := hB
  have inv0 : HeadInv .any ops n (Array.replicate ops.size false) :=
    ⟨by simp, fun j oj _ hl => (by rw [getD_replicate_false] at hl; cases hl), fun t _ ht => getD_in (by simpa using ht) (getD_replicate_false _ _)⟩
  have := wpR_of_ordB (P := P) (Q := Q) hsel hs hc hn ord _ a w.drew inv0 ho h
  rw [hl, show n + (ops.size - n) = ops.size by omega] at this
  exact wp_region_any hm (wpAny_of_RB _ _ _ _ this)

/-- an operation that merely yields -/
theorem wpOrd_yieldB {n i : Nat} {rest : List (Nat × Bool)} {o : Oper} {v : Value} {a : Act} {w : World} (hi : ops.toList[i]? = some o) (hQ : ∀ c a w, Q (.panic c) (a.put o.dst v) w → Q (.panic c) a w)
    (hw : Region.wanted o (yielded ops a.tmps) = true) (hy : ∀ x, Below B w x → (execOp a.eval o).run P x = .ok (.value v) x)
    (h : wpOrdB B P ops Q n rest (a.put o.dst v) w) : wpOrdB B P ops Q n ((i, true) :: rest) a w :=
  ⟨o, v, by rw [← Array.getElem?_toList]; exact hi, Or.inl ⟨hw, hy⟩, hQ, h⟩

/-- an operation whose guard is false -/
theorem wpOrd_skipB {n i : Nat} {rest : List (Nat × Bool)} {o : Oper} {a : Act} {w : World} (hi : ops.toList[i]? = some o) (hQ : ∀ c a w, Q (.panic c) (a.put o.dst undef) w → Q (.panic c) a w)
    (hw : Region.wanted o (yielded ops a.tmps) = false)
    (h : wpOrdB B P ops Q n rest (a.put o.dst undef) w) : wpOrdB B P ops Q n ((i, true) :: rest) a w :=
  ⟨o, undef, by rw [← Array.getElem?_toList]; exact hi, Or.inr ⟨hw, rfl⟩, hQ, h⟩

/-- an operation that comes up alone: a call, a new variable -/
theorem wpOrd_stepB {n i : Nat} {rest : List (Nat × Bool)} {o : Oper} {a : Act} {w : World} (hi : ops.toList[i]? = some o) (hg : o.guard = none)
    (h : ∀ K : Act → World → Prop, (∀ a' w', Below B w w' → wpOrdB B P ops Q n rest a' w' → K a' w') → o.wp P a w K Q) : wpOrdB B P ops Q n ((i, false) :: rest) a w := by
  have hw : Region.wanted o (yielded ops a.tmps) = true := by simp [Region.wanted, hg]
  rw [Array.getElem?_toList] at hi
  show wpOp P ops Q i _ a w
  unfold wpOp
  simp only [hi, hw, if_true]
  exact .inl (h _ fun a' w' h1 h2 => ⟨h1, h2⟩)

theorem wpOrd_nilB {n : Nat} {a : Act} {w : World} {l : List Oper} (hl : ops.toList.drop n = l) (h : wpList P ops Q l a w) : wpOrdB B P ops Q n [] a w := by
  subst hl; exact h

end
end Go.Proofs.YtpicmhbjiaegpaaGreatDoor

namespace Go.Proofs.YtpicmhbjiaegpaaGreatDoor
open Go.RowKit

/-- the quotient's digits from place i on, and the rest -/
def P0 (xs : List Int) (y i : Nat) (qs : List Int) (r : Nat) : Prop :=
  qs.length = xs.length ∧ Dig qs ∧ r < y ∧ val (xs.drop i) = val (qs.drop i) * y + r

theorem P0.start {xs : List Int} {y : Nat} (hy : 0 < y) : P0 xs y xs.length (List.replicate xs.length 0) 0 := by
  refine ⟨by simp, fun j _ => ?_, hy, by simp [val]⟩
  simp only [List.getD_eq_getElem?_getD, List.getElem?_replicate]; split <;> simp

theorem P0.step {xs qs : List Int} {y i r N : Nat} (h : P0 xs y (i + 1) qs r) (hi : i < xs.length) (hN : (N : Int) = xs.getD i 0 + 1000000000 * r) (hx : Dig xs) (hy : 0 < y) :
    P0 xs y i (qs.set i ((N / y : Nat) : Int)) (N % y) ∧ N < y * 1000000000 := by
  obtain ⟨h1, h2, h3, h4⟩ := h
  have a := hx.all i
  have hNy : N < y * 1000000000 := by omega
  have hq : N / y < 1000000000 := Nat.div_lt_of_lt_mul (by omega)
  have hd : (N : Int) = ((N / y : Nat) : Int) * y + ((N % y : Nat) : Int) := by
    have := Nat.div_add_mod N y
    rw [Nat.mul_comm] at this
    have h5 := congrArg (Nat.cast (R := Int)) this
    rw [Int.natCast_add, Int.natCast_mul] at h5
    exact h5.symm
  have hm := Nat.mod_lt N hy
  generalize N / y = Q at *
  generalize N % y = R at *
  refine ⟨⟨by simpa using h1, fun j _ => ?_, hm, ?_⟩, hNy⟩
  · rw [getD_set]; split
    · omega
    · exact h2.all j
  · rw [val_drop hi, val_drop (l := qs.set i _) (by simpa using (by omega : i < qs.length)), getD_set, if_pos ⟨rfl, by omega⟩, List.drop_set_of_lt (by omega), h4]
    generalize val (qs.drop (i + 1)) = v
    rw [Int.add_mul, Int.mul_assoc]
    generalize (Q : Int) * y = p at *
    generalize v * (y : Int) = u at *
    omega

theorem heap_four (w : World) (o p q r : Obj) : ((((w.alloc o).alloc p).alloc q).alloc r).heap[w.heap.size]? = some o ∧ ((((w.alloc o).alloc p).alloc q).alloc r).heap[w.heap.size + 1]? = some p ∧
    ((((w.alloc o).alloc p).alloc q).alloc r).heap[w.heap.size + 2]? = some q ∧ ((((w.alloc o).alloc p).alloc q).alloc r).heap[w.heap.size + 3]? = some r := by
  obtain ⟨e1, e2, e3⟩ := heap_three w o p q
  refine ⟨?_, ?_, ?_, ?_⟩
  · rw [Below.heap_alloc _ _ _ (by simp <;> omega)]; exact e1
  · rw [Below.heap_alloc _ _ _ (by simp <;> omega)]; exact e2
  · rw [Below.heap_alloc _ _ _ (by simp)]; exact e3
  · have := heap_alloc_new (((w.alloc o).alloc p).alloc q) r
    simpa using this

theorem below_four (w : World) (o p q r : Obj) : Below w.heap.size w ((((w.alloc o).alloc p).alloc q).alloc r) :=
  ((((Below.refl _ _).alloc (Nat.le_refl _) _).alloc (by simp) _).alloc (by simp; omega) _).alloc (by simp; omega) _

theorem owns_one (w : World) (base : Nat) (x : Int) (hb : base ≤ w.heap.size) :
    (w.alloc (.cells #[.int .i64 x] 3)).ownsRow base 3 1 (.slice (some ⟨w.heap.size, 0, none⟩) 1 1) 1 ([x].map (Value.int .i64)) :=
  ⟨rfl, .inr ⟨w.heap.size, 1, #[.int .i64 x], rfl, hb, heap_alloc_new w _, Nat.le_refl _, by unfold maxLen; omega, rfl, rfl⟩⟩

theorem field_digits (s : Bool) (a : Option Addr) (n c : Nat) (x : World) :
    ((Sem.run Tryz.prog (Instr.field 148 (Value.agg #[Value.bool s, Value.slice a n c]) 1) x).andThen fun a w' => Result.ok (Next.value a) w') = Result.ok (Next.value (Value.slice a n c)) x := by
  kernel_rfl

/-- a call that gives back two long integers -/
def RetLL (w : World) (x y : Int) (e : Ending) (w' : World) : Prop :=
  ∃ s a n c s' a' n' c', e = .returned (.tuple #[.agg #[.bool s, .slice a n c], .agg #[.bool s', .slice a' n' c']]) ∧ LG w'.heap.size w' s a n c x ∧ LG w'.heap.size w' s' a' n' c' y ∧ Below w.heap.size w w' ∧ Fresh w.heap.size a n ∧ Fresh w.heap.size a' n'

set_option maxRecDepth 100000 in
set_option maxHeartbeats 1600000 in
theorem parts_any (x y : Nat) (a b : Option Addr) (n m c d : Nat) (w : World) (ha : LG w.heap.size w false a n c (x : Int)) (hb : LG w.heap.size w false b m d (y : Int)) (hy : 0 < y) (hm : m ≤ 599) :
    Calls Tryz.prog 103 #[.agg #[.bool false, .slice a n c], .agg #[.bool false, .slice b m d]] w (RetLL w ((x / y : Nat) : Int) ((x % y : Nat) : Int)) := by
  have hn := ha.2.2
  have Ha := Lib.hid ha; have Hb := Lib.hid hb; clear ha hb
  go_enter Tryz.func103, Tryz.ntmps103
  go_wp2_with (refine wpList_make_ints rfl (.tmp 12) (.tmp 12) 146 rfl Tryz.underlying146 (n : Int) n rfl rfl (by omega) (by omega) ?_)
  intro w1 hblk hb1
  have hb1' : Below ((((w.alloc (.cells #[.bool false, .slice a n c] 148)).alloc (.cells #[.bool false, .slice b m d] 148)).alloc (.cells #[.bool false, .slice none 0 0] 148)).alloc (.cells #[.bool false, .slice none 0 0] 148)).heap.size
    ((((w.alloc (.cells #[.bool false, .slice a n c] 148)).alloc (.cells #[.bool false, .slice b m d] 148)).alloc (.cells #[.bool false, .slice none 0 0] 148)).alloc (.cells #[.bool false, .slice none 0 0] 148)) w1 := by simpa using hb1
  obtain ⟨d1, d2, d3, d4⟩ := heap_four w (.cells #[.bool false, .slice a n c] 148) (.cells #[.bool false, .slice b m d] 148) (.cells #[.bool false, .slice none 0 0] 148) (.cells #[.bool false, .slice none 0 0] 148)
  have e1 := (hb1'.block _ (by simp <;> omega)).trans d1
  have e2 := (hb1'.block _ (by simp <;> omega)).trans d2
  have e3 := (hb1'.block _ (by simp)).trans d3
  have e4 := (hb1'.block _ (by simp)).trans d4
  have hw1 := (below_four w _ _ _ _).trans (hb1'.mono (by simp <;> omega))
  clear hb1 hb1' d1 d2 d3 d4
  have hgg : w.heap.size + 3 < w.heap.size + 1 + 1 + 1 + 1 := by omega
  generalize w.heap.size + 1 + 1 + 1 + 1 = g at *
  have hax := Ha.out.2.1
  have hby := Hb.out.2.1
  rw [Int.natAbs_natCast] at hax hby
  have hdx := dig_digs x
  have hvx := val_digs x
  have hlx := hax.len
  generalize digs x = xs at *
  obtain rfl := hlx
  have Hdx := Lib.hid hdx; have Hvx := Lib.hid hvx; have Hax := Lib.hid hax; have Hby := Lib.hid hby; have Hgg := Lib.hid hgg
  obtain ⟨q1, q2, _, _⟩ := cells_at e1
  have E1 := Lib.hid e1; have E2 := Lib.hid e2; have E3 := Lib.hid e3; have E4 := Lib.hid e4
  clear hdx hvx hax hby Ha Hb e1 e2 e3 e4 hgg
  go_wp2_with fail
  clear q1 q2
  go_loopw [7, 8] (fun rv iv wr => ∃ (i r : Nat) (ra : Option Addr) (rn rc : Nat) (qs : List Int), rv = .slice ra rn rc ∧ iv = .int .i64 ((i : Int) - 1) ∧ i ≤ xs.length ∧ Blk wr g qs ∧ P0 xs y i qs r ∧ SL wr.heap.size wr ra rn rc (digs r) ∧ (ra = none → rc = 0) ∧ Fresh (g + 1) ra rn ∧ Below g w1 wr) (fun _ iv _ => (intOf iv + 1).toNat)
  case atStart => exact ⟨xs.length, 0, none, 0, 0, _, rfl, rfl, Nat.le_refl _, hblk, P0.start hy, by rw [digs_zero]; exact SL.nil _ _ _ _, fun _ => rfl, Fresh.zero _ _, Below.refl _ _⟩
  case round =>
    clear hblk
    obtain ⟨i, r, ra, rn, rc, qs, rfl, rfl, hi, hblk, hp, hsl, hnil, hfr, hbw⟩ := hrel
    have Hp := Lib.hid hp; have Hsl := Lib.hid hsl; have Hnil := Lib.hid hnil; have Hfr := Lib.hid hfr
    have hgl := hblk.lt
    have g1 := (hbw.block w.heap.size (by have := Hgg.out; omega)).trans E1.out
    have g2 := (hbw.block (w.heap.size + 1) (by have := Hgg.out; omega)).trans E2.out
    have g3 := (hbw.block (w.heap.size + 2) (by have := Hgg.out; omega)).trans E3.out
    have g4 := (hbw.block (w.heap.size + 3) (by have := Hgg.out; omega)).trans E4.out
    obtain ⟨q1, q2, _, _⟩ := cells_at g1
    obtain ⟨q3, q4, _, _⟩ := cells_at g2
    obtain ⟨q5, q6, f5, f6⟩ := cells_at g3
    obtain ⟨q7, q8, f7, f8⟩ := cells_at g4
    clear g1 g2 g3 g4 hp hsl hnil hfr
    by_cases hi0 : i = 0
    · subst hi0
      have hd := Hp.out
      obtain ⟨hql, hqd, hry, hv⟩ := hd
      rw [List.drop_zero, List.drop_zero, Hvx.out] at hv
      have hq : val qs = ((x / y : Nat) : Int) ∧ r = x % y := by
        obtain ⟨Q, hQ⟩ : ∃ Q : Nat, (Q : Int) = val qs := ⟨(val qs).toNat, Int.toNat_of_nonneg (val_nonneg hqd)⟩
        rw [← hQ] at hv ⊢
        have hx : x = Q * y + r := by
          rw [← Int.natCast_mul, ← Int.natCast_add] at hv
          exact Int.ofNat_inj.1 hv
        refine ⟨?_, ?_⟩
        · congr 1
          rw [hx]; exact (Nat.div_eq_of_lt_le (by omega) (by rw [Nat.add_mul]; omega)).symm
        · rw [hx, Nat.mul_comm, Nat.mul_add_mod]; exact (Nat.mod_eq_of_lt hry).symm
      obtain ⟨hq1, hq2⟩ := hq
      have hlq : (digs (val qs).toNat).length ≤ 600 := by
        rw [hq1, Int.toNat_natCast]
        refine Nat.le_trans (length_digs_le (k := xs.length) ?_) hn
        have h1 := val_lt Hdx.out
        have h3 : (x : Int) < ((1000000000 ^ xs.length : Nat) : Int) := by rw [← Hvx.out, Int.natCast_pow]; exact h1
        have h4 := Int.ofNat_lt.1 h3
        have h2 := Nat.div_le_self x y
        omega
      have hslq := hblk.sl (c := xs.length) (by omega)
      rw [hql] at hslq
      have Hslq := Lib.hid hslq; have Hqd := Lib.hid hqd; have Hlq := Lib.hid hlq; have Hq1 := Lib.hid hq1; have Hq2 := Lib.hid hq2; have Hry := Lib.hid hry
      clear hslq hqd hlq hq1 hq2 hql hv hry
      go_wp2_with fail
      refine wp_region_eager 11 [(0, true), (1, true), (2, true), (3, true), (4, true), (5, true), (7, true), (8, true), (9, true), (6, false), (10, false)] (by kernel_rfl) (by kernel_rfl) ?_
      iterate 9
        refine wpOrd_yield (v := ?_) rfl (fun _ _ _ h => h) (by rfl) ?_ ?_
        rotate_left
        · intro x hx
          have z1 := (hx.cell (p := ⟨w.heap.size, 0, none⟩) (by show w.heap.size < wr.heap.size; have := Hgg.out; omega)).trans q1
          have z3 := (hx.cell (p := ⟨w.heap.size + 1, 0, none⟩) (by show w.heap.size + 1 < wr.heap.size; have := Hgg.out; omega)).trans q3
          go_simp
          with_reducible rfl
        try simp only [Act.put, List.setIfInBounds_toArray, List.set_cons_zero, List.set_cons_succ]
      refine wpOrd_step rfl rfl (fun KK hKK => ?_)
      go_simp
      refine (made_any false qs ((x / y : Nat) : Int) _ _ _ _ (by exact Hslq.out) Hqd.out (by omega) Hlq.out (by rw [Hq1.out]; rfl)).mono ?_
      rintro e w4 ⟨s4, a4, n4, c4, rfl, hlg4, hb4, hf4⟩
      refine hKK _ _ hb4 ?_
      clear hKK KK
      try simp only [Act.put, List.setIfInBounds_toArray, List.set_cons_zero, List.set_cons_succ]
      have hb4' := below_undrew (k := 1) hb4
      have hsl4 : SL w4.heap.size w4 ra rn rc (digs r) := Hsl.out.go hb4'
      have Hsl4 := Lib.hid hsl4; have Hb4 := Lib.hid hb4'; have Hlg4 := Lib.hid hlg4; have Hf4 := Lib.hid hf4
      clear hsl4 hb4 hb4' hlg4 hf4
      have hrn : rn ≤ 599 := by
        rw [Hsl.out.len]
        have := length_digs_mono (n := r) (m := y) (by have := Hry.out; omega)
        have h2 := Hby.out.len
        omega
      refine wpOrd_step rfl rfl (fun KK hKK => ?_)
      go_simp
      refine (made_any false (digs r) ((x % y : Nat) : Int) _ _ _ _ (by exact Hsl4.out) (dig_digs r) (by omega) (by rw [val_digs, Int.toNat_natCast, ← Hsl.out.len]; omega) (by rw [val_digs, Hq2.out]; rfl)).mono ?_
      rintro e w5 ⟨s5, a5, n5, c5, rfl, hlg5, hb5, hf5⟩
      refine hKK _ _ hb5 ?_
      clear hKK KK
      try simp only [Act.put, List.setIfInBounds_toArray, List.set_cons_zero, List.set_cons_succ]
      have hb5' : Below wr.heap.size wr w5 := Hb4.out.trans (hb5.mono Hb4.out.size)
      have hlt3 : w.heap.size + 3 < wr.heap.size := by have := Hgg.out; omega
      have k5 := (hb5'.cell (p := ⟨w.heap.size + 2, 0, none⟩) (by show w.heap.size + 2 < wr.heap.size; omega)).trans q5
      have k6 := (hb5'.cell (p := ⟨w.heap.size + 2, 1, none⟩) (by show w.heap.size + 2 < wr.heap.size; omega)).trans q6
      have k7 := (hb5'.cell (p := ⟨w.heap.size + 3, 0, none⟩) hlt3).trans q7
      have k8 := (hb5'.cell (p := ⟨w.heap.size + 3, 1, none⟩) hlt3).trans q8
      have l5 := (hb5'.frozen (p := ⟨w.heap.size + 2, 0, none⟩) (by show w.heap.size + 2 < wr.heap.size; omega)).trans f5
      have l6 := (hb5'.frozen (p := ⟨w.heap.size + 2, 1, none⟩) (by show w.heap.size + 2 < wr.heap.size; omega)).trans f6
      have l7 := (hb5'.frozen (p := ⟨w.heap.size + 3, 0, none⟩) hlt3).trans f7
      have l8 := (hb5'.frozen (p := ⟨w.heap.size + 3, 1, none⟩) hlt3).trans f8
      have Hlg5 := Lib.hid hlg5; have Hf5 := Lib.hid hf5; have Hb5 := Lib.hid hb5'
      have Hb5r := Lib.hid (hb5)
      clear hlg5 hf5 hb5 hb5' q1 q2 q3 q4 q5 q6 q7 q8 f5 f6 f7 f8
      refine wpOrd_nil rfl ?_
      go_wp2_with fail
      refine bodyPost_ret (v := .tuple #[.agg #[.bool s4, .slice a4 n4 c4], .agg #[.bool s5, .slice a5 n5 c5]]) ?_ rfl ?_
      · simp [results, Tryz.results103, go_sem, k5, k6, k7, k8]
      · have hl4 := Hlg4.out.go (below_undrew (k := 0) Hb5r.out)
        have o4 : Out 0 wr.heap.size a4 n4 := Out.ofFresh Hf4.out
        have o5 : Out 0 wr.heap.size a5 n5 := Out.ofFresh (Hf5.out.mono Hb4.out.size)
        have m4 := lg_stored (lg_stored hl4 o4 (Nat.zero_le (w.heap.size + 2)) (by omega) (.bool s4) (.slice a4 n4 c4)) o4 (Nat.zero_le (w.heap.size + 3)) (by omega) (.bool s5) (.slice a5 n5 c5)
        have m5 := lg_stored (lg_stored Hlg5.out o5 (Nat.zero_le (w.heap.size + 2)) (by omega) (.bool s4) (.slice a4 n4 c4)) o5 (Nat.zero_le (w.heap.size + 3)) (by omega) (.bool s5) (.slice a5 n5 c5)
        have hwr := hw1.trans (hbw.mono (by have := Hgg.out; omega))
        have hw5 := hwr.trans (Hb5.out.mono hwr.size)
        refine ⟨s4, a4, n4, c4, s5, a5, n5, c5, rfl, m4, m5, (((hw5.setCell ?_ _).setCell ?_ _).setCell ?_ _).setCell ?_ _, Hf4.out.mono hwr.size, Hf5.out.mono (Nat.le_trans hwr.size Hb4.out.size)⟩
        · show w.heap.size ≤ w.heap.size + 2; omega
        · show w.heap.size ≤ w.heap.size + 2; omega
        · show w.heap.size ≤ w.heap.size + 3; omega
        · show w.heap.size ≤ w.heap.size + 3; omega
    · obtain ⟨i, rfl⟩ : ∃ j, i = j + 1 := ⟨i - 1, by omega⟩
      have e0 : (((i + 1 : Nat) : Int) - 1) = (i : Int) := by omega
      rw [e0]
      clear e0 hi0
      have hin : i < xs.length := by omega
      obtain ⟨ba, oa, rfl, hba, ca⟩ := Hax.out.at (by omega)
      have hwr := hw1.trans (hbw.mono (by have := Hgg.out; omega))
      have g1 := (hwr.cell (p := ⟨ba, oa + i, none⟩) hba).trans (ca i hin)
      have hxi := Hdx.out.all i
      generalize hxx : xs.getD i 0 = xi at *
      have Hxx := Lib.hid hxx; have Hwr := Lib.hid hwr
      clear ca hba hxx hwr
      have hrn : rn ≤ 599 := by
        have h1 := Hp.out.2.2.1
        rw [Hsl.out.len]
        have := length_digs_mono (n := r) (m := y) (by omega)
        have h2 := Hby.out.len
        omega
      go_wp2_with (refine wpList_append_ints rfl (.tmp 27) (.tmp 28) 146 rfl Tryz.underlying146 wr.heap.size _ 1 [xi] rfl (owns_one wr _ xi (Nat.le_refl _)) _ ra rn rc (digs r) rfl (Hsl.out.alloc _) Hnil.out (by omega) (by simp) ?_)
      intro v' w2 hown hgrow
      have hb2 : Below wr.heap.size wr w2 := ((Below.refl _ _).alloc (Nat.le_refl _) _).grown hgrow (by simp) (by intro k hk; simp [Value.ownBlock] at hk; omega)
      obtain ⟨va, vc, rfl⟩ := owns_slice hown
      have hnx := owns_sl (zs := [xi] ++ digs r) (by simpa using hown)
      obtain ⟨N, hN⟩ : ∃ N : Nat, (N : Int) = xi + 1000000000 * r := ⟨xi.toNat + 1000000000 * r, by omega⟩
      have hst := Hp.out.step hin (by rw [Hxx.out]; exact hN) Hdx.out hy
      obtain ⟨hst, hNy⟩ := hst
      have hvn : val ([xi] ++ digs r) = (N : Int) := by rw [val_append, val_digs, hN]; simp [val]
      have hdn : Dig ([xi] ++ digs r) := (Dig.cons hxi Dig.nil).append (dig_digs r)
      have hNl : (digs N).length ≤ 600 := by
        exact digs_len_next hNy (by rw [← Hby.out.len]; exact hm)
      have hbs := (Hby.out.go Hwr.out).go hb2
      have hs2 := hb2.size
      have hbw2 := hbw.trans (hb2.mono (by omega))
      have q3' := (hb2.cell (p := ⟨w.heap.size + 1, 0, none⟩) (by show w.heap.size + 1 < wr.heap.size; have := Hgg.out; omega)).trans q3
      have q4' := (hb2.cell (p := ⟨w.heap.size + 1, 1, none⟩) (by show w.heap.size + 1 < wr.heap.size; have := Hgg.out; omega)).trans q4
      have hlt1 : w.heap.size + 1 < w2.heap.size := by have := Hgg.out; omega
      have Hnx := Lib.hid hnx; have Hst := Lib.hid hst; have Hvn := Lib.hid hvn; have Hdn := Lib.hid hdn; have HNl := Lib.hid hNl; have Hbs := Lib.hid hbs; have HNy := Lib.hid hNy
      clear hown hgrow hnx hst hvn hdn hNl hbs hN hNy q1 q2 q3 q4 q5 q6 q7 q8 f5 f6 f7 f8 g1
      go_wp2_with fail
      refine wp_region_eagerB (B := w2.heap.size) 13 [(0, true), (1, true), (2, true), (5, true), (6, true), (3, false), (4, true), (7, false), (8, true), (9, true), (10, true), (11, true), (12, true)] (by kernel_rfl) (by kernel_rfl) ?_
      iterate 5
        refine wpOrd_yieldB (v := ?_) rfl (fun _ _ _ h => h) (by rfl) ?_ ?_
        rotate_left
        · intro x hx
          have z1 := (hx.cell (p := ⟨w.heap.size + 1, 0, none⟩) hlt1).trans q3'
          have z2 := (hx.cell (p := ⟨w.heap.size + 1, 1, none⟩) hlt1).trans q4'
          go_simp
          with_reducible rfl
        try simp only [Act.put, List.setIfInBounds_toArray, List.set_cons_zero, List.set_cons_succ]
      refine wpOrd_stepB rfl rfl (fun KK hKK => ?_)
      go_simp
      refine (made_own false ([xi] ++ digs r) (N : Int) va (1 + rn) vc _ (by exact Hnx.out) Hdn.out (by omega) (by rw [Hvn.out, Int.toNat_natCast]; exact HNl.out) (by rw [Hvn.out]; rfl)).mono ?_
      rintro e w4 ⟨s5, a5, n5, c5, rfl, hlg, hb5, hf5, ho5, hc5⟩
      refine hKK _ _ hb5 ?_
      clear hKK KK
      try simp only [Act.put, List.setIfInBounds_toArray, List.set_cons_zero, List.set_cons_succ]
      have hown5 : OwnD w2.heap.size w4 a5 n5 c5 N := by
        refine ⟨by simpa using hlg.2.1, ?_, hc5⟩
        rcases ho5 with h | ⟨g5, h, hbk⟩
        · exact Or.inl h
        · by_cases hz5 : n5 = 0
          · exact Or.inl hz5
          · exact Or.inr ⟨g5, h, by simpa using hbk, hf5 g5 0 h (by omega)⟩
      have hbs4 : SL w2.heap.size w4 b m d (digs y) := Hbs.out.below (below_undrew (k := 1) hb5) (Nat.le_refl _)
      have Hown5 := Lib.hid hown5; have Hbs4 := Lib.hid hbs4; have hb5' := below_undrew (k := 1) hb5
      have Hb5 := Lib.hid hb5'
      clear hlg hf5 ho5 hc5 hown5 hbs4 hb5 hb5'
      refine wpOrd_yieldB (v := .slice a5 n5 c5) rfl (fun _ _ _ h => h) (by rfl) (fun x _ => field_digits s5 a5 n5 c5 x) ?_
      try simp only [Act.put, List.setIfInBounds_toArray, List.set_cons_zero, List.set_cons_succ]
      refine wpOrd_stepB rfl rfl (fun KK hKK => ?_)
      go_simp
      refine (taken_any w2.heap.size N y a5 b n5 m c5 d _ Hown5.out Hbs4.out Hb5.out.size hy HNy.out hm).mono ?_
      rintro e w5 ⟨a6, n6, c6, rfl, ho6, hb6⟩
      refine hKK _ _ hb6 ?_
      clear hKK KK
      try simp only [Act.put, List.setIfInBounds_toArray, List.set_cons_zero, List.set_cons_succ]
      have hb7 : Below w2.heap.size w2 w5 := Hb5.out.trans hb6
      have hbw5 := hbw2.trans (hb7.mono (by omega))
      have hblk5 : Blk w5 g qs := hblk.below (hb2.trans (hb7.mono hb2.size)) hgl
      have g5 := hblk5.free i
      have g6 := hblk5.cell (j := i) (by rw [Hp.out.1]; omega)
      have Ho6 := Lib.hid ho6
      clear ho6 hb6
      have hqN : ((N / y : Nat) : Int) < 1000000000 := Int.ofNat_lt.2 (Nat.div_lt_of_lt_mul HNy.out)
      generalize hQ : ((N / y : Nat) : Int) = Q at *
      iterate 5
        refine wpOrd_yieldB (v := ?_) rfl (fun _ _ _ h => h) (by rfl) ?_ ?_
        rotate_left
        · intro x hx
          go_simp
          with_reducible rfl
        try simp only [Act.put, List.setIfInBounds_toArray, List.set_cons_zero, List.set_cons_succ]
      refine wpOrd_nilB rfl ?_
      have hqs := Hp.out.1
      have Hqs := Lib.hid hqs; have HQ := Lib.hid hQ
      clear hqs hQ
      go_wp2
      go_roundw
      case rel =>
        have hs := hblk5.set i (by rw [Hqs.out]; omega) Q
        have hst := Hst.out
        refine ⟨i, N % y, a6, n6, c6, _, rfl, by go_num, by omega, hs, hst, ?_, Ho6.out.2.2, ?_, hbw5.setCell (Nat.le_refl _) _⟩
        · exact Ho6.out.1.setCell ⟨g, i, none⟩ (.int .i64 Q) (fun b off e h0 => by
            rcases Ho6.out.2.1 with h | ⟨gz, h, _, hgz⟩
            · omega
            · rw [h] at e; injection e with e; injection e with e1; show b ≠ g; omega) |> fun h => by simpa using h
        · rcases Ho6.out.2.1 with h | ⟨gz, h, _, hgz⟩
          · rw [h]; exact Fresh.zero _ _
          · rw [h]; exact Fresh.mk (by omega) _
      case measure => simp [intOf]


end Go.Proofs.YtpicmhbjiaegpaaGreatDoor

namespace Go.Proofs.YtpicmhbjiaegpaaGreatDoor
open Go.RowKit

set_option maxHeartbeats 400000 in
theorem refMinus_any (s : Bool) (z : Int) (a : Option Addr) (n c : Nat) (w : World) (h : LG w.heap.size w s a n c z) :
    Calls Tryz.prog 95 #[.agg #[.bool s, .slice a n c]] w (RetL1 w (-z)) := by
  have hb : Below w.heap.size w ((w.alloc (.cells #[.bool s, .slice a n c] 148)).alloc (.cells #[.bool false, .slice none 0 0] 148)) := below_two _ _
  have hsl := (h.2.1.below hb (Nat.le_refl _)).mono hb.size
  have hs := h.1
  have hn := h.2.2
  have hl := h.2.1.len
  have H := Lib.hid hsl; clear hsl
  have Hb := Lib.hid hb; clear hb
  have Hs := Lib.hid hs; clear hs
  have Hl := Lib.hid hl; clear hl h
  go_enter Tryz.func95, Tryz.ntmps95
  go_wp2_with fail
  refine (made_any (!s) (digs z.natAbs) (-z) _ _ _ _ H.out (dig_digs _) (by omega) (by rw [val_digs, Int.toNat_natCast, ← Hl.out]; exact hn) ?_).mono ?_
  · have := Hs.out
    rw [val_digs, this]
    by_cases h0 : z < 0
    · simp [h0]; omega
    · simp [h0]; omega
  rintro e w1 ⟨s', a', n', c', rfl, hlg, hb1, hf⟩
  obtain ⟨e1, e2⟩ := heap_two w (.cells #[.bool s, .slice a n c] 148) (.cells #[.bool false, .slice none 0 0] 148)
  have e3 := (hb1.block (w.heap.size + 1) (by simp)).trans e2
  obtain ⟨k1, k2, k3, k4⟩ := cells_at e3
  have Hlg := Lib.hid hlg; have Hf := Lib.hid hf; have Hb1 := Lib.hid hb1; clear hlg hf hb1 e1 e2 e3
  go_wp2_with fail
  refine bodyPost_ret (v := .agg #[.bool s', .slice a' n' c']) ?_ rfl ?_
  · simp [results, Tryz.results95, go_sem, k1, k2]
  · exact refL1_mk Hlg.out (Hb.out.trans (Hb1.out.mono Hb.out.size)) Hf.out (w.heap.size + 1) (by simp) (by omega) _ _
end Go.Proofs.YtpicmhbjiaegpaaGreatDoor

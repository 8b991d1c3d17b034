/-
  DERIVED. The walks of the reference's long integers, ninth part: taken.
-/
import Derived.Test.YtkfkdkoohnfgaaaRefH
import Derived.Test.YtkfkdkoohnfgaaaDivNum
namespace Go.Proofs.Ytkfkdkoohnfgaaa
open Go.RowKit

theorem digs_len_next {N y k : Nat} (h : N < y * 1000000000) (hy : (digs y).length ≤ k) : (digs N).length ≤ k + 1 := by
  refine length_digs_le ?_
  have h1 := digs_lt y
  have h3 := Nat.pow_le_pow_right (n := 1000000000) (by decide) hy
  rw [Nat.pow_succ]
  exact Nat.lt_of_lt_of_le h (Nat.mul_le_mul_right _ (by omega))

theorem refAt_i (zs : List Int) (a : Option Addr) (n c i : Nat) (I z : Int) (w : World) (hI : I = (i : Int)) (h : SL w.heap.size w a n c zs) (hn : n ≤ 1000000) (hi : i ≤ 1000000) (hz : zs.getD i 0 = z) :
    Calls Try.prog 85 #[.slice a n c, .int .i64 I] w (fun e w' => e = .returned (.int .i64 z) ∧ w = w') := by
  subst hI; exact refAt_z zs a n c i z w h hn hi hz

/-- the quotient and the rest, rounded down -/
theorem quo_floor (X : Int) (h1 : -999999998000000001 - 1000000000 ≤ X) (h2 : X ≤ 999999999) :
    -1000000000 ≤ X.tdiv 1000000000 ∧ X.tdiv 1000000000 ≤ 0 ∧ -1000000000 < X.tmod 1000000000 ∧ X.tmod 1000000000 < 1000000000 ∧
      ((0 ≤ X.tmod 1000000000 ∧ X.tdiv 1000000000 = X / 1000000000 ∧ X.tmod 1000000000 = X % 1000000000) ∨
       (X.tmod 1000000000 < 0 ∧ X.tdiv 1000000000 - 1 = X / 1000000000 ∧ X.tmod 1000000000 + 1000000000 = X % 1000000000)) := by
  by_cases h : 0 ≤ X
  · rw [Int.tdiv_eq_ediv_of_nonneg h, Int.tmod_eq_emod_of_nonneg h]
    omega
  · rw [tdiv_of_neg (by omega), tmod_of_neg (by omega)]
    omega

/-- digits in a block of one's own, not below B -/
def OwnD (B : Nat) (w : World) (a : Option Addr) (n c : Nat) (r : Nat) : Prop :=
  SL w.heap.size w a n c (digs r) ∧ (n = 0 ∨ ∃ g, a = some ⟨g, 0, none⟩ ∧ Blk w g (digs r) ∧ B ≤ g) ∧ (a = none → c = 0)

/-- what holds ahead of each round of taken -/
def TakeRel (B : Nat) (w : World) (x y : Nat) (rv nv : Value) (wr : World) : Prop :=
  ∃ (r q : Nat) (a : Option Addr) (n c : Nat), rv = .slice a n c ∧ nv = .int .i64 (q : Int) ∧ x = q * y + r ∧ OwnD B wr a n c r ∧ Below B w wr

set_option maxRecDepth 100000 in
set_option maxHeartbeats 1600000 in
theorem taken_any (B x y : Nat) (a b : Option Addr) (n m c d : Nat) (w : World) (ha : OwnD B w a n c x) (hb : SL B w b m d (digs y)) (hB : B ≤ w.heap.size) (hy : 0 < y) (hxy : x < y * 1000000000) (hm : m ≤ 599) :
    Calls Try.prog 86 #[.slice a n c, .slice b m d] w
      (fun e w' => ∃ a' n' c', e = .returned (.tuple #[.slice a' n' c', .int .i64 ((x / y : Nat) : Int)]) ∧ OwnD B w' a' n' c' (x % y) ∧ Below B w w') := by
  have Ha := Lib.hid ha; have Hb := Lib.hid hb; have Hxy := Lib.hid hxy; clear ha hb hxy
  go_enter Try.func86, Try.ntmps86
  go_wp2_with fail
  go_loopw [0, 6] (fun rv nv wr => TakeRel B w x y rv nv wr) (fun _ nv _ => x - (intOf nv).toNat)
  case atStart => exact ⟨x, 0, a, n, c, rfl, rfl, by omega, Ha.out, Below.refl _ _⟩
  case round =>
    clear Ha
    obtain ⟨r, q, a, n, c, rfl, rfl, hx, ho, hbw⟩ := hrel
    have Hx := Lib.hid hx; have Ho := Lib.hid ho
    have hbs : SL wr.heap.size wr b m d (digs y) := (Hb.out.below hbw (Nat.le_refl _)).mono (by have := hbw.size; omega)
    have Hbs := Lib.hid hbs
    have hn : n ≤ 600 := by
      rw [ho.1.len]
      exact digs_len_next (y := y) (Nat.lt_of_le_of_lt (by have := Hx.out; omega) Hxy.out) (by rw [← Hb.out.len]; exact hm)
    have hq : (q : Int) < 1000000000 := by
      have h1 : q * y < 1000000000 * y := by have := Hxy.out; rw [Nat.mul_comm 1000000000]; omega
      have := Nat.lt_of_mul_lt_mul_right h1
      omega
    clear hx ho hbs
    by_cases hry : r < y
    · have hd : decide (r < y) = true := by simpa using hry
      go_wp2_with fail
      refine (less_any r y a b n m c d _ Ho.out.1 Hbs.out (by omega)).mono ?_
      rintro e w2 ⟨rfl, nk, rfl⟩
      rw [hd]
      have hqq : q = x / y := by
        rw [Hx.out]; exact (Nat.div_eq_of_lt_le (by omega) (by rw [Nat.add_mul]; omega)).symm
      have hrr : r = x % y := by
        rw [Hx.out, Nat.mul_comm, Nat.mul_add_mod]; exact (Nat.mod_eq_of_lt hry).symm
      have Hqq := Lib.hid hqq; have Hrr := Lib.hid hrr
      clear hd hry hqq hrr
      go_wp2
      go_ret2
      rw [← Hqq.out, ← Hrr.out]
      exact ⟨a, n, c, rfl, Ho.out, below_drewN hbw _⟩
    · have hd : decide (r < y) = false := by simpa using hry
      have hrx : r < y * 1000000000 := by have h1 := Hxy.out; have h2 := Hx.out; omega
      obtain ⟨M, hM⟩ : ∃ M, m = M + 1 := ⟨m - 1, by
        have h1 := Hb.out.len
        have : (digs y).length ≠ 0 := fun e => by have := digs_len_zero.1 e; omega
        omega⟩
      have hm1 : (m : Int) - 1 = (M : Int) := by omega
      have hMm : M < m := by omega
      have HM := Lib.hid hM; clear hM
      have hlm : M + 1 ≤ n := by
        have hM := HM.out
        have h1 := Hb.out.len
        have h2 := Ho.out.1.len
        have h3 := length_digs_mono (n := y) (m := r) (by omega)
        omega
      have hMn : M < n := by omega
      obtain ⟨bb, ob, rfl, hbb, cb⟩ := Hb.out.at (by omega)
      have hown := Ho.out.2.1
      rcases hown with hn0 | ⟨g, rfl, hblk, hgB⟩
      · omega
      have g1 := hblk.cell (j := M) (by rw [← Ho.out.1.len]; omega)
      have g2 := (hbw.cell (p := ⟨bb, ob + M, none⟩) hbb).trans (cb M (by omega))
      have Hcb := Lib.hid cb
      obtain ⟨K, hK⟩ : ∃ K : Int, K = if (((digs r).getD (M + 1) 0) * 1000000000 + (digs r).getD M 0) / ((digs y).getD M 0 + 1) = 0 then 1 else (((digs r).getD (M + 1) 0) * 1000000000 + (digs r).getD M 0) / ((digs y).getD M 0 + 1) := ⟨_, rfl⟩
      obtain ⟨hK1, hK2, hK3, h0, h1, h2, h3, h4, h5⟩ := often (x := r) (y := y) (m := M) hy (by rw [← Hb.out.len, HM.out]) hrx (by omega) rfl rfl rfl hK
      generalize hhi : (digs r).getD (M + 1) 0 = hi at *
      generalize htop : (digs r).getD M 0 = top at *
      generalize hbt : (digs y).getD M 0 = bt at *
      have e1 : (hi * 1000000000 + top).tdiv (bt + 1) = (hi * 1000000000 + top) / (bt + 1) := Int.tdiv_eq_ediv_of_nonneg (by omega)
      have e2 : 0 ≤ (hi * 1000000000 + top) / (bt + 1) := Int.ediv_nonneg (by omega) (by omega)
      generalize hk0 : (hi * 1000000000 + top) / (bt + 1) = k0 at *
      have e3 : ¬ (bt + 1 = 0) := by omega
      have e4 : k0 ≤ K := by rw [hK]; split <;> omega
      have v1 : IntKind.i64.wrap ((M : Int) + 1) = (M : Int) + 1 := IntWalk.i64_in _ (by omega)
      have v2 : IntKind.i64.wrap (hi * 1000000000) = hi * 1000000000 := IntWalk.i64_in _ (by omega)
      have v3 : IntKind.i64.wrap (hi * 1000000000 + top) = hi * 1000000000 + top := IntWalk.i64_in _ (by omega)
      have v4 : IntKind.i64.wrap (bt + 1) = bt + 1 := IntWalk.i64_in _ (by omega)
      have v5 : IntKind.i64.wrap k0 = k0 := IntWalk.i64_in _ (by omega)
      have Hk0 := Lib.hid hk0; have Hhi := Lib.hid hhi; have HKy := Lib.hid hK3; have Hbbl := Lib.hid hblk
      clear hk0 htop hbt hhi cb hK3 hrx
      go_wp2_with fail
      refine (less_any r y _ _ n m c d _ Ho.out.1 Hbs.out (by omega)).mono ?_
      rintro e w2 ⟨rfl, nk, rfl⟩
      rw [hd]; clear hd
      go_wp2_with fail
      refine wp_region_eager 16 [(0, true), (1, true), (2, true), (5, true), (6, true), (7, true), (8, true), (10, true), (11, true), (12, true), (13, true), (14, true), (3, false), (4, true), (9, true), (15, true)] (by kernel_rfl) (by kernel_rfl) ?_
      iterate 12
        refine wpOrd_yield (v := ?_) rfl (fun _ _ _ h => h) (by rfl) ?_ ?_
        rotate_left
        · intro x hx
          have z1 := (hx.cell (p := ⟨g, M, none⟩) Hbbl.out.lt).trans g1
          have z2 := (hx.cell (p := ⟨bb, ob + M, none⟩) (by show bb < wr.heap.size; have := hbw.size; omega)).trans g2
          go_simp
          with_reducible rfl
        try simp only [Act.put, List.setIfInBounds_toArray, List.set_cons_zero, List.set_cons_succ]
      refine wpOrd_step rfl rfl (fun KK hKK => ?_)
      go_simp
      refine (refAt_i (digs r) _ n c (M + 1) _ hi _ (by omega) (by exact Ho.out.1) (by omega) (by omega) Hhi.out).mono ?_
      rintro e w4 ⟨rfl, rfl⟩
      refine hKK _ _ (Below.refl _ _) ?_
      clear hKK KK
      try simp only [Act.put, List.setIfInBounds_toArray, List.set_cons_zero, List.set_cons_succ]
      iterate 3
        refine wpOrd_yield (v := ?_) rfl (fun _ _ _ h => h) (by rfl) ?_ ?_
        rotate_left
        · intro x hx
          go_simp
          with_reducible rfl
        try simp only [Act.put, List.setIfInBounds_toArray, List.set_cons_zero, List.set_cons_succ]
      refine wpOrd_nil rfl ?_
      by_cases hk00 : k0 = 0
      · have hK0 : K = 1 := by rw [hK, if_pos hk00]
        have HK1 := Lib.hid hK0
        subst hk00
        clear hK hK0 e1 g1 g2
        go_wp2_with fail
        clear v1 v2 v3 v4 v5 e2 e3 e4
        obtain ⟨wo, rfl⟩ : ∃ wo : World, wo = wr := ⟨_, rfl⟩
        go_loopw [9, 10] (fun cv iv wr => ∃ (i : Nat) (cr : Int) (out : List Int), cv = .int .i64 cr ∧ iv = .int .i64 (i : Int) ∧ i ≤ n ∧ Blk wr g out ∧ D1 (digs r) (digs y) K i cr out ∧ Below B w wr) (fun _ iv _ => n - (intOf iv).toNat)
        case atStart => exact ⟨0, 0, digs r, rfl, rfl, Nat.zero_le _, Hbbl.out.drew _, D1.start (dig_digs r), below_drewN hbw _⟩
        case round =>
          obtain ⟨i, cr, out, rfl, rfl, hi, hblk, hp, hbw2⟩ := hrel
          have hol : out.length = n := by rw [hp.1, ← Ho.out.1.len]
          have Hol := Lib.hid hol; clear hol
          by_cases hin : i < n
          · have g1 := hblk.cell (j := i) (by have := Hol.out; omega)
            rw [hp.2.2.1 i (Nat.le_refl _)] at g1
            have g3 := hblk.free i
            have hri := (dig_digs r).all i
            have hyi := (dig_digs y).all i
            have hc0 := hp.2.2.2.2.1
            have hc1 := hp.2.2.2.2.2
            have hst := hp.step (dig_digs y) (by omega) hK2 (by rw [← Ho.out.1.len]; exact hin)
            have hby := (Hb.out.below hbw2 (Nat.le_refl _)).mono (show B ≤ wr.heap.size by have := hbw2.size; omega)
            have hgl := hblk.lt
            obtain ⟨b1, b2⟩ := mul_bd2 hyi ⟨by omega, hK2⟩
            have Hby := Lib.hid hby
            generalize hxx : (digs r).getD i 0 = ri at *
            generalize hyy : (digs y).getD i 0 = yi at *
            generalize hpK : yi * K = p at *
            generalize hX : ri - p + cr = X at *
            have x1 : -999999998000000001 - 1000000000 ≤ X := by omega
            have x2 : X ≤ 999999999 := by omega
            have Hst := Lib.hid hst; have Hyy := Lib.hid hyy; have Hp := Lib.hid hp
            clear hst hyy hxx hp hby
            first
              | (have hp1 : p = yi := by
                   rw [← hpK, HK1.out, Int.mul_one]
                 subst hp1
                 clear hpK)
              | skip
            have v6 : IntKind.i64.wrap p = p := IntWalk.i64_in _ (by omega)
            have v7 : IntKind.i64.wrap (ri - p) = ri - p := IntWalk.i64_in _ (by omega)
            have v8 : IntKind.i64.wrap X = X := IntWalk.i64_in _ (by omega)
            go_wp2_with fail
            refine wp_region_eager 12 [(0, true), (1, true), (2, true), (3, true), (4, true), (5, true), (7, true), (10, true), (6, false), (8, true), (9, true), (11, true)] (by kernel_rfl) (by kernel_rfl) ?_
            iterate 8
              refine wpOrd_yield (v := ?_) rfl (fun _ _ _ h => h) (by rfl) ?_ ?_
              rotate_left
              · intro x hx
                have z1 := (hx.cell (p := ⟨g, i, none⟩) hgl).trans g1
                go_simp
                with_reducible rfl
              try simp only [Act.put, List.setIfInBounds_toArray, List.set_cons_zero, List.set_cons_succ]
            refine wpOrd_step rfl rfl (fun KK hKK => ?_)
            go_simp
            refine (refAt_z (digs y) _ m d i _ _ (by exact Hby.out) (by omega) (by omega) Hyy.out).mono ?_
            rintro e w4 ⟨rfl, rfl⟩
            refine hKK _ _ (Below.refl _ _) ?_
            clear hKK KK
            try simp only [Act.put, List.setIfInBounds_toArray, List.set_cons_zero, List.set_cons_succ]
            iterate 3
              refine wpOrd_yield (v := ?_) rfl (fun _ _ _ h => h) (by rfl) ?_ ?_
              rotate_left
              · intro x hx
                go_simp
                with_reducible rfl
              try simp only [Act.put, List.setIfInBounds_toArray, List.set_cons_zero, List.set_cons_succ]
            refine wpOrd_nil rfl ?_
            have h3 := quo_floor X x1 x2
            generalize hQ0 : X.tdiv 1000000000 = Q0 at h3
            generalize hR0 : X.tmod 1000000000 = R0 at h3
            obtain ⟨y1, y2, y3, y4, h3⟩ := h3
            clear x1 x2
            rcases h3 with ⟨h3, h4, h5⟩ | ⟨h3, h4, h5⟩
            · have h3' : ¬ R0 < 0 := by omega
              have H4 := Lib.hid h4; have H5 := Lib.hid h5; clear h4 h5 h3
              go_wp2
              go_roundw
              case rel =>
                refine ⟨i + 1, Q0, _, rfl, by go_num, by omega, hblk.set i (by have := Hol.out; omega) R0, ?_, below_drewN (show Below B w (World.setCell wr ⟨g, i, none⟩ _) from hbw2.setCell hgB _) 1⟩
                have := Hst.out
                rw [← H4.out, ← H5.out] at this
                exact this
              case measure => simp [intOf]; omega
            · have H4 := Lib.hid h4; have H5 := Lib.hid h5; clear h4 h5
              go_wp2
              go_roundw
              case rel =>
                refine ⟨i + 1, Q0 - 1, _, rfl, by go_num, by omega, hblk.set i (by have := Hol.out; omega) (R0 + 1000000000), ?_, below_drewN (show Below B w (World.setCell wr ⟨g, i, none⟩ _) from hbw2.setCell hgB _) 1⟩
                have := Hst.out
                rw [← H4.out, ← H5.out] at this
                exact this
              case measure => simp [intOf]; omega
          · obtain rfl : i = n := by omega
            have hdn : Dig out ∧ val out = val (digs r) - K * val (digs y) := by
              have hl1 := Ho.out.1.len
              have h := hp
              rw [hl1] at h
              exact h.done (length_digs_mono (by omega)) (by rw [val_digs, val_digs]; exact HKy.out)
            obtain ⟨hdig, hval⟩ := hdn
            rw [val_digs, val_digs] at hval
            obtain ⟨r', hr'⟩ : ∃ r' : Nat, (r' : Int) = (r : Int) - K * y := ⟨((r : Int) - K * y).toNat, Int.toNat_of_nonneg (by have := HKy.out; omega)⟩
            obtain ⟨kn, hkn⟩ : ∃ kn : Nat, (kn : Int) = K := ⟨K.toNat, Int.toNat_of_nonneg (by omega)⟩
            have hrk : r = kn * y + r' := by
              have h1 : (r : Int) = (kn : Int) * y + r' := by rw [hkn]; omega
              rw [← Int.natCast_mul, ← Int.natCast_add] at h1
              exact Int.ofNat_inj.1 h1
            have hvr : val out = (r' : Int) := by rw [hval, hr']
            have hlen : (digs (val out).toNat).length ≤ 600 := by
              rw [hvr, Int.toNat_natCast]
              have := length_digs_mono (n := r') (m := r) (by omega)
              rw [← Ho.out.1.len] at this
              omega
            have hsl := hblk.sl (c := c) (by have := Hol.out; have := Ho.out.1.cap; omega)
            rw [Hol.out] at hsl
            have Hsl := Lib.hid hsl; have Hdig := Lib.hid hdig; have Hlen := Lib.hid hlen; have Hvr := Lib.hid hvr; have Hrk := Lib.hid hrk; have Hkn := Lib.hid hkn
            clear hsl hdig hlen hvr hrk hkn hval hr' hp
            have hgl := hblk.lt
            go_wp2_with fail
            refine (made_own false out (r' : Int) _ _ _ _ Hsl.out Hdig.out (by omega) Hlen.out (by rw [Hvr.out]; rfl)).mono ?_
            rintro e w5 ⟨s5, a5, n5, c5, rfl, hlg, hb5, hf5, ho5, hc5⟩
            have hb5' : Below B w w5 := hbw2.trans (hb5.mono (by have := hbw2.size; omega))
            have hown5 : OwnD B w5 a5 n5 c5 r' := by
              refine ⟨by simpa using hlg.2.1, ?_, hc5⟩
              rcases ho5 with h | ⟨g5, h, hbk⟩
              · exact Or.inl h
              · by_cases hz5 : n5 = 0
                · exact Or.inl hz5
                · refine Or.inr ⟨g5, h, by simpa using hbk, ?_⟩
                  have := hf5 g5 0 h (by omega)
                  have := hbw2.size
                  omega
            have Hown5 := Lib.hid hown5
            clear hlg hf5 ho5 hown5 hb5 hc5
            go_wp2_with fail
            change (?K : Act → World → Prop) (Act.put ?A _ (Value.slice a5 n5 c5)) _
            go_wp2
            go_roundw
            case rel =>
              refine ⟨r', q + kn, a5, n5, c5, rfl, ?_, ?_, Hown5.out, hb5'⟩
              · have := Hkn.out
                have h2 := HK1.out
                first
                  | (show Value.int .i64 _ = Value.int .i64 _; congr 1; omega)
              · rw [Hx.out, Hrk.out, Nat.add_mul, Nat.add_assoc]
            case measure =>
              have h1 := Hx.out
              have h2 := Hrk.out
              have h3 := Hkn.out
              have h4 := HK1.out
              have h5 : kn * 1 ≤ kn * y := Nat.mul_le_mul_left _ hy
              have h6 : q * 1 ≤ q * y := Nat.mul_le_mul_left _ hy
              simp [intOf]
              omega
      · have hK0 : K = k0 := by rw [hK, if_neg hk00]
        have hk01 : (k0 == 0) = false := by simpa using hk00
        subst hK0
        clear hK hk00 e1 g1 g2
        have HK1 := Lib.hid (rfl : K = K)
        go_wp2_with fail
        clear v1 v2 v3 v4 v5 e2 e3 e4 hk01
        obtain ⟨wo, rfl⟩ : ∃ wo : World, wo = wr := ⟨_, rfl⟩
        go_loopw [9, 10] (fun cv iv wr => ∃ (i : Nat) (cr : Int) (out : List Int), cv = .int .i64 cr ∧ iv = .int .i64 (i : Int) ∧ i ≤ n ∧ Blk wr g out ∧ D1 (digs r) (digs y) K i cr out ∧ Below B w wr) (fun _ iv _ => n - (intOf iv).toNat)
        case atStart => exact ⟨0, 0, digs r, rfl, rfl, Nat.zero_le _, Hbbl.out.drew _, D1.start (dig_digs r), below_drewN hbw _⟩
        case round =>
          obtain ⟨i, cr, out, rfl, rfl, hi, hblk, hp, hbw2⟩ := hrel
          have hol : out.length = n := by rw [hp.1, ← Ho.out.1.len]
          have Hol := Lib.hid hol; clear hol
          by_cases hin : i < n
          · have g1 := hblk.cell (j := i) (by have := Hol.out; omega)
            rw [hp.2.2.1 i (Nat.le_refl _)] at g1
            have g3 := hblk.free i
            have hri := (dig_digs r).all i
            have hyi := (dig_digs y).all i
            have hc0 := hp.2.2.2.2.1
            have hc1 := hp.2.2.2.2.2
            have hst := hp.step (dig_digs y) (by omega) hK2 (by rw [← Ho.out.1.len]; exact hin)
            have hby := (Hb.out.below hbw2 (Nat.le_refl _)).mono (show B ≤ wr.heap.size by have := hbw2.size; omega)
            have hgl := hblk.lt
            obtain ⟨b1, b2⟩ := mul_bd2 hyi ⟨by omega, hK2⟩
            have Hby := Lib.hid hby
            generalize hxx : (digs r).getD i 0 = ri at *
            generalize hyy : (digs y).getD i 0 = yi at *
            generalize hpK : yi * K = p at *
            generalize hX : ri - p + cr = X at *
            have x1 : -999999998000000001 - 1000000000 ≤ X := by omega
            have x2 : X ≤ 999999999 := by omega
            have Hst := Lib.hid hst; have Hyy := Lib.hid hyy; have Hp := Lib.hid hp
            clear hst hyy hxx hp hby
            first
              | (have hp1 : p = yi := by
                   rw [← hpK, HK1.out, Int.mul_one]
                 subst hp1
                 clear hpK)
              | skip
            have v6 : IntKind.i64.wrap p = p := IntWalk.i64_in _ (by omega)
            have v7 : IntKind.i64.wrap (ri - p) = ri - p := IntWalk.i64_in _ (by omega)
            have v8 : IntKind.i64.wrap X = X := IntWalk.i64_in _ (by omega)
            go_wp2_with fail
            refine wp_region_eager 12 [(0, true), (1, true), (2, true), (3, true), (4, true), (5, true), (7, true), (10, true), (6, false), (8, true), (9, true), (11, true)] (by kernel_rfl) (by kernel_rfl) ?_
            iterate 8
              refine wpOrd_yield (v := ?_) rfl (fun _ _ _ h => h) (by rfl) ?_ ?_
              rotate_left
              · intro x hx
                have z1 := (hx.cell (p := ⟨g, i, none⟩) hgl).trans g1
                go_simp
                with_reducible rfl
              try simp only [Act.put, List.setIfInBounds_toArray, List.set_cons_zero, List.set_cons_succ]
            refine wpOrd_step rfl rfl (fun KK hKK => ?_)
            go_simp
            refine (refAt_z (digs y) _ m d i _ _ (by exact Hby.out) (by omega) (by omega) Hyy.out).mono ?_
            rintro e w4 ⟨rfl, rfl⟩
            refine hKK _ _ (Below.refl _ _) ?_
            clear hKK KK
            try simp only [Act.put, List.setIfInBounds_toArray, List.set_cons_zero, List.set_cons_succ]
            iterate 3
              refine wpOrd_yield (v := ?_) rfl (fun _ _ _ h => h) (by rfl) ?_ ?_
              rotate_left
              · intro x hx
                go_simp
                with_reducible rfl
              try simp only [Act.put, List.setIfInBounds_toArray, List.set_cons_zero, List.set_cons_succ]
            refine wpOrd_nil rfl ?_
            have h3 := quo_floor X x1 x2
            generalize hQ0 : X.tdiv 1000000000 = Q0 at h3
            generalize hR0 : X.tmod 1000000000 = R0 at h3
            obtain ⟨y1, y2, y3, y4, h3⟩ := h3
            clear x1 x2
            rcases h3 with ⟨h3, h4, h5⟩ | ⟨h3, h4, h5⟩
            · have h3' : ¬ R0 < 0 := by omega
              have H4 := Lib.hid h4; have H5 := Lib.hid h5; clear h4 h5 h3
              go_wp2
              go_roundw
              case rel =>
                refine ⟨i + 1, Q0, _, rfl, by go_num, by omega, hblk.set i (by have := Hol.out; omega) R0, ?_, below_drewN (show Below B w (World.setCell wr ⟨g, i, none⟩ _) from hbw2.setCell hgB _) 1⟩
                have := Hst.out
                rw [← H4.out, ← H5.out] at this
                exact this
              case measure => simp [intOf]; omega
            · have H4 := Lib.hid h4; have H5 := Lib.hid h5; clear h4 h5
              go_wp2
              go_roundw
              case rel =>
                refine ⟨i + 1, Q0 - 1, _, rfl, by go_num, by omega, hblk.set i (by have := Hol.out; omega) (R0 + 1000000000), ?_, below_drewN (show Below B w (World.setCell wr ⟨g, i, none⟩ _) from hbw2.setCell hgB _) 1⟩
                have := Hst.out
                rw [← H4.out, ← H5.out] at this
                exact this
              case measure => simp [intOf]; omega
          · obtain rfl : i = n := by omega
            have hdn : Dig out ∧ val out = val (digs r) - K * val (digs y) := by
              have hl1 := Ho.out.1.len
              have h := hp
              rw [hl1] at h
              exact h.done (length_digs_mono (by omega)) (by rw [val_digs, val_digs]; exact HKy.out)
            obtain ⟨hdig, hval⟩ := hdn
            rw [val_digs, val_digs] at hval
            obtain ⟨r', hr'⟩ : ∃ r' : Nat, (r' : Int) = (r : Int) - K * y := ⟨((r : Int) - K * y).toNat, Int.toNat_of_nonneg (by have := HKy.out; omega)⟩
            obtain ⟨kn, hkn⟩ : ∃ kn : Nat, (kn : Int) = K := ⟨K.toNat, Int.toNat_of_nonneg (by omega)⟩
            have hrk : r = kn * y + r' := by
              have h1 : (r : Int) = (kn : Int) * y + r' := by rw [hkn]; omega
              rw [← Int.natCast_mul, ← Int.natCast_add] at h1
              exact Int.ofNat_inj.1 h1
            have hvr : val out = (r' : Int) := by rw [hval, hr']
            have hlen : (digs (val out).toNat).length ≤ 600 := by
              rw [hvr, Int.toNat_natCast]
              have := length_digs_mono (n := r') (m := r) (by omega)
              rw [← Ho.out.1.len] at this
              omega
            have hsl := hblk.sl (c := c) (by have := Hol.out; have := Ho.out.1.cap; omega)
            rw [Hol.out] at hsl
            have Hsl := Lib.hid hsl; have Hdig := Lib.hid hdig; have Hlen := Lib.hid hlen; have Hvr := Lib.hid hvr; have Hrk := Lib.hid hrk; have Hkn := Lib.hid hkn
            clear hsl hdig hlen hvr hrk hkn hval hr' hp
            have hgl := hblk.lt
            go_wp2_with fail
            refine (made_own false out (r' : Int) _ _ _ _ Hsl.out Hdig.out (by omega) Hlen.out (by rw [Hvr.out]; rfl)).mono ?_
            rintro e w5 ⟨s5, a5, n5, c5, rfl, hlg, hb5, hf5, ho5, hc5⟩
            have hb5' : Below B w w5 := hbw2.trans (hb5.mono (by have := hbw2.size; omega))
            have hown5 : OwnD B w5 a5 n5 c5 r' := by
              refine ⟨by simpa using hlg.2.1, ?_, hc5⟩
              rcases ho5 with h | ⟨g5, h, hbk⟩
              · exact Or.inl h
              · by_cases hz5 : n5 = 0
                · exact Or.inl hz5
                · refine Or.inr ⟨g5, h, by simpa using hbk, ?_⟩
                  have := hf5 g5 0 h (by omega)
                  have := hbw2.size
                  omega
            have Hown5 := Lib.hid hown5
            clear hlg hf5 ho5 hown5 hb5 hc5
            go_wp2_with fail
            change (?K2 : Act → World → Prop) (Act.put ?A2 _ (Value.slice a5 n5 c5)) _
            go_wp2
            go_roundw
            case rel =>
              refine ⟨r', q + kn, a5, n5, c5, rfl, ?_, ?_, Hown5.out, hb5'⟩
              · have := Hkn.out
                have h2 := HK1.out
                first
                  | (show Value.int .i64 _ = Value.int .i64 _; congr 1; omega)
              · rw [Hx.out, Hrk.out, Nat.add_mul, Nat.add_assoc]
            case measure =>
              have h1 := Hx.out
              have h2 := Hrk.out
              have h3 := Hkn.out
              have h4 := HK1.out
              have h5 : kn * 1 ≤ kn * y := Nat.mul_le_mul_left _ hy
              have h6 : q * 1 ≤ q * y := Nat.mul_le_mul_left _ hy
              simp [intOf]
              omega

end Go.Proofs.Ytkfkdkoohnfgaaa

/-
  DERIVED. The walks of the reference's long integers, tenth part: Parts.
-/
import Derived.Test.YtkfkdkoohnfgaaaRefI
import Derived.Test.YtkfkdkoohnfgaaaRegionB
namespace Go.Proofs.Ytkfkdkoohnfgaaa
open Go.RowKit

/-- the quotient's digits from place i on, and the rest -/
def P0 (xs : List Int) (y i : Nat) (qs : List Int) (r : Nat) : Prop :=
  qs.length = xs.length ∧ Dig qs ∧ r < y ∧ val (xs.drop i) = val (qs.drop i) * y + r

theorem P0.start {xs : List Int} {y : Nat} (hy : 0 < y) : P0 xs y xs.length (List.replicate xs.length 0) 0 := by
  refine ⟨by simp, fun j _ => ?_, hy, by simp [val]⟩
  simp only [List.getD_eq_getElem?_getD, List.getElem?_replicate]; split <;> simp

theorem P0.step {xs qs : List Int} {y i r N : Nat} (h : P0 xs y (i + 1) qs r) (hi : i < xs.length) (hN : (N : Int) = xs.getD i 0 + 1000000000 * r) (hx : Dig xs) (hy : 0 < y) :
    P0 xs y i (qs.set i ((N / y : Nat) : Int)) (N % y) ∧ N < y * 1000000000 := by
  obtain ⟨h1, h2, h3, h4⟩ := h
  have a := hx.all i
  have hNy : N < y * 1000000000 := by omega
  have hq : N / y < 1000000000 := Nat.div_lt_of_lt_mul (by omega)
  have hd : (N : Int) = ((N / y : Nat) : Int) * y + ((N % y : Nat) : Int) := by
    have := Nat.div_add_mod N y
    rw [Nat.mul_comm] at this
    have h5 := congrArg (Nat.cast (R := Int)) this
    rw [Int.natCast_add, Int.natCast_mul] at h5
    exact h5.symm
  have hm := Nat.mod_lt N hy
  generalize N / y = Q at *
  generalize N % y = R at *
  refine ⟨⟨by simpa using h1, fun j _ => ?_, hm, ?_⟩, hNy⟩
  · rw [getD_set]; split
    · omega
    · exact h2.all j
  · rw [val_drop hi, val_drop (l := qs.set i _) (by simpa using (by omega : i < qs.length)), getD_set, if_pos ⟨rfl, by omega⟩, List.drop_set_of_lt (by omega), h4]
    generalize val (qs.drop (i + 1)) = v
    rw [Int.add_mul, Int.mul_assoc]
    generalize (Q : Int) * y = p at *
    generalize v * (y : Int) = u at *
    omega

theorem heap_four (w : World) (o p q r : Obj) : ((((w.alloc o).alloc p).alloc q).alloc r).heap[w.heap.size]? = some o ∧ ((((w.alloc o).alloc p).alloc q).alloc r).heap[w.heap.size + 1]? = some p ∧
    ((((w.alloc o).alloc p).alloc q).alloc r).heap[w.heap.size + 2]? = some q ∧ ((((w.alloc o).alloc p).alloc q).alloc r).heap[w.heap.size + 3]? = some r := by
  obtain ⟨e1, e2, e3⟩ := heap_three w o p q
  refine ⟨?_, ?_, ?_, ?_⟩
  · rw [Below.heap_alloc _ _ _ (by simp <;> omega)]; exact e1
  · rw [Below.heap_alloc _ _ _ (by simp <;> omega)]; exact e2
  · rw [Below.heap_alloc _ _ _ (by simp)]; exact e3
  · have := heap_alloc_new (((w.alloc o).alloc p).alloc q) r
    simpa using this

theorem below_four (w : World) (o p q r : Obj) : Below w.heap.size w ((((w.alloc o).alloc p).alloc q).alloc r) :=
  ((((Below.refl _ _).alloc (Nat.le_refl _) _).alloc (by simp) _).alloc (by simp; omega) _).alloc (by simp; omega) _

theorem owns_one (w : World) (base : Nat) (x : Int) (hb : base ≤ w.heap.size) :
    (w.alloc (.cells #[.int .i64 x] 3)).ownsRow base 3 1 (.slice (some ⟨w.heap.size, 0, none⟩) 1 1) 1 ([x].map (Value.int .i64)) :=
  ⟨rfl, .inr ⟨w.heap.size, 1, #[.int .i64 x], rfl, hb, heap_alloc_new w _, Nat.le_refl _, by unfold maxLen; omega, rfl, rfl⟩⟩

theorem field_digits (s : Bool) (a : Option Addr) (n c : Nat) (x : World) :
    ((Sem.run Try.prog (Instr.field 51 (Value.agg #[Value.bool s, Value.slice a n c]) 1) x).andThen fun a w' => Result.ok (Next.value a) w') = Result.ok (Next.value (Value.slice a n c)) x := by
  kernel_rfl

/-- a call that gives back two long integers -/
def RetLL (w : World) (x y : Int) (e : Ending) (w' : World) : Prop :=
  ∃ s a n c s' a' n' c', e = .returned (.tuple #[.agg #[.bool s, .slice a n c], .agg #[.bool s', .slice a' n' c']]) ∧ LG w'.heap.size w' s a n c x ∧ LG w'.heap.size w' s' a' n' c' y ∧ Below w.heap.size w w' ∧ Fresh w.heap.size a n ∧ Fresh w.heap.size a' n'

set_option maxRecDepth 100000 in
set_option maxHeartbeats 1600000 in
theorem parts_any (x y : Nat) (a b : Option Addr) (n m c d : Nat) (w : World) (ha : LG w.heap.size w false a n c (x : Int)) (hb : LG w.heap.size w false b m d (y : Int)) (hy : 0 < y) (hm : m ≤ 599) :
    Calls Try.prog 76 #[.agg #[.bool false, .slice a n c], .agg #[.bool false, .slice b m d]] w (RetLL w ((x / y : Nat) : Int) ((x % y : Nat) : Int)) := by
  have hn := ha.2.2
  have Ha := Lib.hid ha; have Hb := Lib.hid hb; clear ha hb
  go_enter Try.func76, Try.ntmps76
  go_wp2_with (refine wpList_make_ints rfl (.tmp 12) (.tmp 12) 49 rfl Try.underlying49 (n : Int) n rfl rfl (by omega) (by omega) ?_)
  intro w1 hblk hb1
  have hb1' : Below ((((w.alloc (.cells #[.bool false, .slice a n c] 51)).alloc (.cells #[.bool false, .slice b m d] 51)).alloc (.cells #[.bool false, .slice none 0 0] 51)).alloc (.cells #[.bool false, .slice none 0 0] 51)).heap.size
    ((((w.alloc (.cells #[.bool false, .slice a n c] 51)).alloc (.cells #[.bool false, .slice b m d] 51)).alloc (.cells #[.bool false, .slice none 0 0] 51)).alloc (.cells #[.bool false, .slice none 0 0] 51)) w1 := by simpa using hb1
  obtain ⟨d1, d2, d3, d4⟩ := heap_four w (.cells #[.bool false, .slice a n c] 51) (.cells #[.bool false, .slice b m d] 51) (.cells #[.bool false, .slice none 0 0] 51) (.cells #[.bool false, .slice none 0 0] 51)
  have e1 := (hb1'.block _ (by simp <;> omega)).trans d1
  have e2 := (hb1'.block _ (by simp <;> omega)).trans d2
  have e3 := (hb1'.block _ (by simp)).trans d3
  have e4 := (hb1'.block _ (by simp)).trans d4
  have hw1 := (below_four w _ _ _ _).trans (hb1'.mono (by simp <;> omega))
  clear hb1 hb1' d1 d2 d3 d4
  have hgg : w.heap.size + 3 < w.heap.size + 1 + 1 + 1 + 1 := by omega
  generalize w.heap.size + 1 + 1 + 1 + 1 = g at *
  have hax := Ha.out.2.1
  have hby := Hb.out.2.1
  rw [Int.natAbs_natCast] at hax hby
  have hdx := dig_digs x
  have hvx := val_digs x
  have hlx := hax.len
  generalize digs x = xs at *
  obtain rfl := hlx
  have Hdx := Lib.hid hdx; have Hvx := Lib.hid hvx; have Hax := Lib.hid hax; have Hby := Lib.hid hby; have Hgg := Lib.hid hgg
  obtain ⟨q1, q2, _, _⟩ := cells_at e1
  have E1 := Lib.hid e1; have E2 := Lib.hid e2; have E3 := Lib.hid e3; have E4 := Lib.hid e4
  clear hdx hvx hax hby Ha Hb e1 e2 e3 e4 hgg
  go_wp2_with fail
  clear q1 q2
  go_loopw [7, 8] (fun rv iv wr => ∃ (i r : Nat) (ra : Option Addr) (rn rc : Nat) (qs : List Int), rv = .slice ra rn rc ∧ iv = .int .i64 ((i : Int) - 1) ∧ i ≤ xs.length ∧ Blk wr g qs ∧ P0 xs y i qs r ∧ SL wr.heap.size wr ra rn rc (digs r) ∧ (ra = none → rc = 0) ∧ Fresh (g + 1) ra rn ∧ Below g w1 wr) (fun _ iv _ => (intOf iv + 1).toNat)
  case atStart => exact ⟨xs.length, 0, none, 0, 0, _, rfl, rfl, Nat.le_refl _, hblk, P0.start hy, by rw [digs_zero]; exact SL.nil _ _ _ _, fun _ => rfl, Fresh.zero _ _, Below.refl _ _⟩
  case round =>
    clear hblk
    obtain ⟨i, r, ra, rn, rc, qs, rfl, rfl, hi, hblk, hp, hsl, hnil, hfr, hbw⟩ := hrel
    have Hp := Lib.hid hp; have Hsl := Lib.hid hsl; have Hnil := Lib.hid hnil; have Hfr := Lib.hid hfr
    have hgl := hblk.lt
    have g1 := (hbw.block w.heap.size (by have := Hgg.out; omega)).trans E1.out
    have g2 := (hbw.block (w.heap.size + 1) (by have := Hgg.out; omega)).trans E2.out
    have g3 := (hbw.block (w.heap.size + 2) (by have := Hgg.out; omega)).trans E3.out
    have g4 := (hbw.block (w.heap.size + 3) (by have := Hgg.out; omega)).trans E4.out
    obtain ⟨q1, q2, _, _⟩ := cells_at g1
    obtain ⟨q3, q4, _, _⟩ := cells_at g2
    obtain ⟨q5, q6, f5, f6⟩ := cells_at g3
    obtain ⟨q7, q8, f7, f8⟩ := cells_at g4
    clear g1 g2 g3 g4 hp hsl hnil hfr
    by_cases hi0 : i = 0
    · subst hi0
      have hd := Hp.out
      obtain ⟨hql, hqd, hry, hv⟩ := hd
      rw [List.drop_zero, List.drop_zero, Hvx.out] at hv
      have hq : val qs = ((x / y : Nat) : Int) ∧ r = x % y := by
        obtain ⟨Q, hQ⟩ : ∃ Q : Nat, (Q : Int) = val qs := ⟨(val qs).toNat, Int.toNat_of_nonneg (val_nonneg hqd)⟩
        rw [← hQ] at hv ⊢
        have hx : x = Q * y + r := by
          rw [← Int.natCast_mul, ← Int.natCast_add] at hv
          exact Int.ofNat_inj.1 hv
        refine ⟨?_, ?_⟩
        · congr 1
          rw [hx]; exact (Nat.div_eq_of_lt_le (by omega) (by rw [Nat.add_mul]; omega)).symm
        · rw [hx, Nat.mul_comm, Nat.mul_add_mod]; exact (Nat.mod_eq_of_lt hry).symm
      obtain ⟨hq1, hq2⟩ := hq
      have hlq : (digs (val qs).toNat).length ≤ 600 := by
        rw [hq1, Int.toNat_natCast]
        refine Nat.le_trans (length_digs_le (k := xs.length) ?_) hn
        have h1 := val_lt Hdx.out
        have h3 : (x : Int) < ((1000000000 ^ xs.length : Nat) : Int) := by rw [← Hvx.out, Int.natCast_pow]; exact h1
        have h4 := Int.ofNat_lt.1 h3
        have h2 := Nat.div_le_self x y
        omega
      have hslq := hblk.sl (c := xs.length) (by omega)
      rw [hql] at hslq
      have Hslq := Lib.hid hslq; have Hqd := Lib.hid hqd; have Hlq := Lib.hid hlq; have Hq1 := Lib.hid hq1; have Hq2 := Lib.hid hq2; have Hry := Lib.hid hry
      clear hslq hqd hlq hq1 hq2 hql hv hry
      go_wp2_with fail
      refine wp_region_eager 11 [(0, true), (1, true), (2, true), (3, true), (4, true), (5, true), (7, true), (8, true), (9, true), (6, false), (10, false)] (by kernel_rfl) (by kernel_rfl) ?_
      iterate 9
        refine wpOrd_yield (v := ?_) rfl (fun _ _ _ h => h) (by rfl) ?_ ?_
        rotate_left
        · intro x hx
          have z1 := (hx.cell (p := ⟨w.heap.size, 0, none⟩) (by show w.heap.size < wr.heap.size; have := Hgg.out; omega)).trans q1
          have z3 := (hx.cell (p := ⟨w.heap.size + 1, 0, none⟩) (by show w.heap.size + 1 < wr.heap.size; have := Hgg.out; omega)).trans q3
          go_simp
          with_reducible rfl
        try simp only [Act.put, List.setIfInBounds_toArray, List.set_cons_zero, List.set_cons_succ]
      refine wpOrd_step rfl rfl (fun KK hKK => ?_)
      go_simp
      refine (made_any false qs ((x / y : Nat) : Int) _ _ _ _ (by exact Hslq.out) Hqd.out (by omega) Hlq.out (by rw [Hq1.out]; rfl)).mono ?_
      rintro e w4 ⟨s4, a4, n4, c4, rfl, hlg4, hb4, hf4⟩
      refine hKK _ _ hb4 ?_
      clear hKK KK
      try simp only [Act.put, List.setIfInBounds_toArray, List.set_cons_zero, List.set_cons_succ]
      have hb4' := below_undrew (k := 1) hb4
      have hsl4 : SL w4.heap.size w4 ra rn rc (digs r) := Hsl.out.go hb4'
      have Hsl4 := Lib.hid hsl4; have Hb4 := Lib.hid hb4'; have Hlg4 := Lib.hid hlg4; have Hf4 := Lib.hid hf4
      clear hsl4 hb4 hb4' hlg4 hf4
      have hrn : rn ≤ 599 := by
        rw [Hsl.out.len]
        have := length_digs_mono (n := r) (m := y) (by have := Hry.out; omega)
        have h2 := Hby.out.len
        omega
      refine wpOrd_step rfl rfl (fun KK hKK => ?_)
      go_simp
      refine (made_any false (digs r) ((x % y : Nat) : Int) _ _ _ _ (by exact Hsl4.out) (dig_digs r) (by omega) (by rw [val_digs, Int.toNat_natCast, ← Hsl.out.len]; omega) (by rw [val_digs, Hq2.out]; rfl)).mono ?_
      rintro e w5 ⟨s5, a5, n5, c5, rfl, hlg5, hb5, hf5⟩
      refine hKK _ _ hb5 ?_
      clear hKK KK
      try simp only [Act.put, List.setIfInBounds_toArray, List.set_cons_zero, List.set_cons_succ]
      have hb5' : Below wr.heap.size wr w5 := Hb4.out.trans (hb5.mono Hb4.out.size)
      have hlt3 : w.heap.size + 3 < wr.heap.size := by have := Hgg.out; omega
      have k5 := (hb5'.cell (p := ⟨w.heap.size + 2, 0, none⟩) (by show w.heap.size + 2 < wr.heap.size; omega)).trans q5
      have k6 := (hb5'.cell (p := ⟨w.heap.size + 2, 1, none⟩) (by show w.heap.size + 2 < wr.heap.size; omega)).trans q6
      have k7 := (hb5'.cell (p := ⟨w.heap.size + 3, 0, none⟩) hlt3).trans q7
      have k8 := (hb5'.cell (p := ⟨w.heap.size + 3, 1, none⟩) hlt3).trans q8
      have l5 := (hb5'.frozen (p := ⟨w.heap.size + 2, 0, none⟩) (by show w.heap.size + 2 < wr.heap.size; omega)).trans f5
      have l6 := (hb5'.frozen (p := ⟨w.heap.size + 2, 1, none⟩) (by show w.heap.size + 2 < wr.heap.size; omega)).trans f6
      have l7 := (hb5'.frozen (p := ⟨w.heap.size + 3, 0, none⟩) hlt3).trans f7
      have l8 := (hb5'.frozen (p := ⟨w.heap.size + 3, 1, none⟩) hlt3).trans f8
      have Hlg5 := Lib.hid hlg5; have Hf5 := Lib.hid hf5; have Hb5 := Lib.hid hb5'
      have Hb5r := Lib.hid (hb5)
      clear hlg5 hf5 hb5 hb5' q1 q2 q3 q4 q5 q6 q7 q8 f5 f6 f7 f8
      refine wpOrd_nil rfl ?_
      go_wp2_with fail
      refine bodyPost_ret (v := .tuple #[.agg #[.bool s4, .slice a4 n4 c4], .agg #[.bool s5, .slice a5 n5 c5]]) ?_ rfl ?_
      · simp [results, Try.results76, go_sem, k5, k6, k7, k8]
      · have hl4 := Hlg4.out.go (below_undrew (k := 0) Hb5r.out)
        have o4 : Out 0 wr.heap.size a4 n4 := Out.ofFresh Hf4.out
        have o5 : Out 0 wr.heap.size a5 n5 := Out.ofFresh (Hf5.out.mono Hb4.out.size)
        have m4 := lg_stored (lg_stored hl4 o4 (Nat.zero_le (w.heap.size + 2)) (by omega) (.bool s4) (.slice a4 n4 c4)) o4 (Nat.zero_le (w.heap.size + 3)) (by omega) (.bool s5) (.slice a5 n5 c5)
        have m5 := lg_stored (lg_stored Hlg5.out o5 (Nat.zero_le (w.heap.size + 2)) (by omega) (.bool s4) (.slice a4 n4 c4)) o5 (Nat.zero_le (w.heap.size + 3)) (by omega) (.bool s5) (.slice a5 n5 c5)
        have hwr := hw1.trans (hbw.mono (by have := Hgg.out; omega))
        have hw5 := hwr.trans (Hb5.out.mono hwr.size)
        refine ⟨s4, a4, n4, c4, s5, a5, n5, c5, rfl, m4, m5, (((hw5.setCell ?_ _).setCell ?_ _).setCell ?_ _).setCell ?_ _, Hf4.out.mono hwr.size, Hf5.out.mono (Nat.le_trans hwr.size Hb4.out.size)⟩
        · show w.heap.size ≤ w.heap.size + 2; omega
        · show w.heap.size ≤ w.heap.size + 2; omega
        · show w.heap.size ≤ w.heap.size + 3; omega
        · show w.heap.size ≤ w.heap.size + 3; omega
    · obtain ⟨i, rfl⟩ : ∃ j, i = j + 1 := ⟨i - 1, by omega⟩
      have e0 : (((i + 1 : Nat) : Int) - 1) = (i : Int) := by omega
      rw [e0]
      clear e0 hi0
      have hin : i < xs.length := by omega
      obtain ⟨ba, oa, rfl, hba, ca⟩ := Hax.out.at (by omega)
      have hwr := hw1.trans (hbw.mono (by have := Hgg.out; omega))
      have g1 := (hwr.cell (p := ⟨ba, oa + i, none⟩) hba).trans (ca i hin)
      have hxi := Hdx.out.all i
      generalize hxx : xs.getD i 0 = xi at *
      have Hxx := Lib.hid hxx; have Hwr := Lib.hid hwr
      clear ca hba hxx hwr
      have hrn : rn ≤ 599 := by
        have h1 := Hp.out.2.2.1
        rw [Hsl.out.len]
        have := length_digs_mono (n := r) (m := y) (by omega)
        have h2 := Hby.out.len
        omega
      go_wp2_with (refine wpList_append_ints rfl (.tmp 27) (.tmp 28) 49 rfl Try.underlying49 wr.heap.size _ 1 [xi] rfl (owns_one wr _ xi (Nat.le_refl _)) _ ra rn rc (digs r) rfl (Hsl.out.alloc _) Hnil.out (by omega) (by simp) ?_)
      intro v' w2 hown hgrow
      have hb2 : Below wr.heap.size wr w2 := ((Below.refl _ _).alloc (Nat.le_refl _) _).grown hgrow (by simp) (by intro k hk; simp [Value.ownBlock] at hk; omega)
      obtain ⟨va, vc, rfl⟩ := owns_slice hown
      have hnx := owns_sl (zs := [xi] ++ digs r) (by simpa using hown)
      obtain ⟨N, hN⟩ : ∃ N : Nat, (N : Int) = xi + 1000000000 * r := ⟨xi.toNat + 1000000000 * r, by omega⟩
      have hst := Hp.out.step hin (by rw [Hxx.out]; exact hN) Hdx.out hy
      obtain ⟨hst, hNy⟩ := hst
      have hvn : val ([xi] ++ digs r) = (N : Int) := by rw [val_append, val_digs, hN]; simp [val]
      have hdn : Dig ([xi] ++ digs r) := (Dig.cons hxi Dig.nil).append (dig_digs r)
      have hNl : (digs N).length ≤ 600 := by
        exact digs_len_next hNy (by rw [← Hby.out.len]; exact hm)
      have hbs := (Hby.out.go Hwr.out).go hb2
      have hs2 := hb2.size
      have hbw2 := hbw.trans (hb2.mono (by omega))
      have q3' := (hb2.cell (p := ⟨w.heap.size + 1, 0, none⟩) (by show w.heap.size + 1 < wr.heap.size; have := Hgg.out; omega)).trans q3
      have q4' := (hb2.cell (p := ⟨w.heap.size + 1, 1, none⟩) (by show w.heap.size + 1 < wr.heap.size; have := Hgg.out; omega)).trans q4
      have hlt1 : w.heap.size + 1 < w2.heap.size := by have := Hgg.out; omega
      have Hnx := Lib.hid hnx; have Hst := Lib.hid hst; have Hvn := Lib.hid hvn; have Hdn := Lib.hid hdn; have HNl := Lib.hid hNl; have Hbs := Lib.hid hbs; have HNy := Lib.hid hNy
      clear hown hgrow hnx hst hvn hdn hNl hbs hN hNy q1 q2 q3 q4 q5 q6 q7 q8 f5 f6 f7 f8 g1
      go_wp2_with fail
      refine wp_region_eagerB (B := w2.heap.size) 13 [(0, true), (1, true), (2, true), (5, true), (6, true), (3, false), (4, true), (7, false), (8, true), (9, true), (10, true), (11, true), (12, true)] (by kernel_rfl) (by kernel_rfl) ?_
      iterate 5
        refine wpOrd_yieldB (v := ?_) rfl (fun _ _ _ h => h) (by rfl) ?_ ?_
        rotate_left
        · intro x hx
          have z1 := (hx.cell (p := ⟨w.heap.size + 1, 0, none⟩) hlt1).trans q3'
          have z2 := (hx.cell (p := ⟨w.heap.size + 1, 1, none⟩) hlt1).trans q4'
          go_simp
          with_reducible rfl
        try simp only [Act.put, List.setIfInBounds_toArray, List.set_cons_zero, List.set_cons_succ]
      refine wpOrd_stepB rfl rfl (fun KK hKK => ?_)
      go_simp
      refine (made_own false ([xi] ++ digs r) (N : Int) va (1 + rn) vc _ (by exact Hnx.out) Hdn.out (by omega) (by rw [Hvn.out, Int.toNat_natCast]; exact HNl.out) (by rw [Hvn.out]; rfl)).mono ?_
      rintro e w4 ⟨s5, a5, n5, c5, rfl, hlg, hb5, hf5, ho5, hc5⟩
      refine hKK _ _ hb5 ?_
      clear hKK KK
      try simp only [Act.put, List.setIfInBounds_toArray, List.set_cons_zero, List.set_cons_succ]
      have hown5 : OwnD w2.heap.size w4 a5 n5 c5 N := by
        refine ⟨by simpa using hlg.2.1, ?_, hc5⟩
        rcases ho5 with h | ⟨g5, h, hbk⟩
        · exact Or.inl h
        · by_cases hz5 : n5 = 0
          · exact Or.inl hz5
          · exact Or.inr ⟨g5, h, by simpa using hbk, hf5 g5 0 h (by omega)⟩
      have hbs4 : SL w2.heap.size w4 b m d (digs y) := Hbs.out.below (below_undrew (k := 1) hb5) (Nat.le_refl _)
      have Hown5 := Lib.hid hown5; have Hbs4 := Lib.hid hbs4; have hb5' := below_undrew (k := 1) hb5
      have Hb5 := Lib.hid hb5'
      clear hlg hf5 ho5 hc5 hown5 hbs4 hb5 hb5'
      refine wpOrd_yieldB (v := .slice a5 n5 c5) rfl (fun _ _ _ h => h) (by rfl) (fun x _ => field_digits s5 a5 n5 c5 x) ?_
      try simp only [Act.put, List.setIfInBounds_toArray, List.set_cons_zero, List.set_cons_succ]
      refine wpOrd_stepB rfl rfl (fun KK hKK => ?_)
      go_simp
      refine (taken_any w2.heap.size N y a5 b n5 m c5 d _ Hown5.out Hbs4.out Hb5.out.size hy HNy.out hm).mono ?_
      rintro e w5 ⟨a6, n6, c6, rfl, ho6, hb6⟩
      refine hKK _ _ hb6 ?_
      clear hKK KK
      try simp only [Act.put, List.setIfInBounds_toArray, List.set_cons_zero, List.set_cons_succ]
      have hb7 : Below w2.heap.size w2 w5 := Hb5.out.trans hb6
      have hbw5 := hbw2.trans (hb7.mono (by omega))
      have hblk5 : Blk w5 g qs := hblk.below (hb2.trans (hb7.mono hb2.size)) hgl
      have g5 := hblk5.free i
      have g6 := hblk5.cell (j := i) (by rw [Hp.out.1]; omega)
      have Ho6 := Lib.hid ho6
      clear ho6 hb6
      have hqN : ((N / y : Nat) : Int) < 1000000000 := Int.ofNat_lt.2 (Nat.div_lt_of_lt_mul HNy.out)
      generalize hQ : ((N / y : Nat) : Int) = Q at *
      iterate 5
        refine wpOrd_yieldB (v := ?_) rfl (fun _ _ _ h => h) (by rfl) ?_ ?_
        rotate_left
        · intro x hx
          go_simp
          with_reducible rfl
        try simp only [Act.put, List.setIfInBounds_toArray, List.set_cons_zero, List.set_cons_succ]
      refine wpOrd_nilB rfl ?_
      have hqs := Hp.out.1
      have Hqs := Lib.hid hqs; have HQ := Lib.hid hQ
      clear hqs hQ
      go_wp2
      go_roundw
      case rel =>
        have hs := hblk5.set i (by rw [Hqs.out]; omega) Q
        have hst := Hst.out
        refine ⟨i, N % y, a6, n6, c6, _, rfl, by go_num, by omega, hs, hst, ?_, Ho6.out.2.2, ?_, hbw5.setCell (Nat.le_refl _) _⟩
        · exact Ho6.out.1.setCell ⟨g, i, none⟩ (.int .i64 Q) (fun b off e h0 => by
            rcases Ho6.out.2.1 with h | ⟨gz, h, _, hgz⟩
            · omega
            · rw [h] at e; injection e with e; injection e with e1; show b ≠ g; omega) |> fun h => by simpa using h
        · rcases Ho6.out.2.1 with h | ⟨gz, h, _, hgz⟩
          · rw [h]; exact Fresh.zero _ _
          · rw [h]; exact Fresh.mk (by omega) _
      case measure => simp [intOf]

end Go.Proofs.Ytkfkdkoohnfgaaa

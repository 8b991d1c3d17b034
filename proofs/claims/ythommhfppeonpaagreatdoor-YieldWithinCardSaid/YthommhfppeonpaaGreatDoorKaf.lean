/-
  DERIVED. Several texts in one: RlH, RlJ, RlK, RlL, RlM, YldD, YrA.
-/
import Derived.Test.YthommhfppeonpaaGreatDoorKae
import Derived.Test.YthommhfppeonpaaGreatDoorKad
import Derived.Test.YthommhfppeonpaaGreatDoorJRsfF
namespace Go.Proofs.YthommhfppeonpaaGreatDoor
open Go.RowKit

/-- a row of the call's own is a slice -/
theorem OwnR.sl {α : Type} {R : Rep α} {k : Nat} {T : TypeId} {base : Nat} {w : World} {v : Value} {l : List α} (h : OwnR R k T base w v l) : ∃ a c, v = .slice a l.length c ∧ (a = none → c = 0) := by
  rcases h.form with ⟨rfl, rfl⟩ | ⟨g, cap, rfl, _⟩
  · exact ⟨none, 0, rfl, fun _ => rfl⟩
  · exact ⟨_, cap, rfl, fun e => by cases e⟩

theorem length_chN {l : List SurfC} {zs : List Int} : ∀ {n : Nat} {l' : List SurfC}, chN l zs n = some l' → l'.length = l.length := by
  intro n
  induction n with
  | zero => intro l' h; cases h; rfl
  | succ n ih =>
    intro l' h
    rw [chN] at h
    cases hc : chN l zs n with
    | none => rw [hc] at h; cases h
    | some m =>
      rw [hc] at h
      simp only [Option.bind_some] at h
      split at h
      · cases h
        rw [length_putL]; exact ih hc
      · cases h

/-- made: the surfaces behind the changes; whether they are possible, and not too many -/
def RetMade (w : World) (l : List SurfC) (zs : List Int) (n : Nat) (e : Ending) (w' : World) : Prop :=
  (chN l zs n = none ∧ e = .returned (.tuple #[.slice none 0 0, .bool false]) ∧ Below w.heap.size w w') ∨
  (∃ l' v, chN l zs n = some l' ∧ e = .returned (.tuple #[v, .bool (decide (n ≤ 12))]) ∧ OwnR SurfR 22 92 w.heap.size w' v l' ∧ Below w.heap.size w w')

theorem rwith_no (l : List SurfC) (a : Option Addr) (n c : Nat) (i p v : Int) (w : World) (h : RR SurfR 22 (fun b => b < w.heap.size) w a n c l) (hn : n ≤ 1000000) (h0 : putB l i p v = false) :
    Calls Tryz.prog 92 #[.slice a n c, .int .i64 i, .int .i64 p, .int .i64 v] w (fun e w' => e = .returned (.tuple #[.slice none 0 0, .bool false]) ∧ Below w.heap.size w w') :=
  (rwith_any l a n c i p v w h hn).mono (by
    rintro e w' (⟨_, h, hb⟩ | ⟨h1, _⟩)
    · exact ⟨h, hb⟩
    · rw [h0] at h1; cases h1)
theorem rwith_yes (l : List SurfC) (a : Option Addr) (n c : Nat) (i p v : Int) (w : World) (h : RR SurfR 22 (fun b => b < w.heap.size) w a n c l) (hn : n ≤ 1000000) (h0 : putB l i p v = true) :
    Calls Tryz.prog 92 #[.slice a n c, .int .i64 i, .int .i64 p, .int .i64 v] w (fun e w' => ∃ g c, e = .returned (.tuple #[.slice (some ⟨g, 0, none⟩) l.length c, .bool true]) ∧ OwnR SurfR 22 92 w.heap.size w' (.slice (some ⟨g, 0, none⟩) l.length c) (putL l i p v) ∧ Below w.heap.size w w') :=
  (rwith_any l a n c i p v w h hn).mono (by
    rintro e w' (⟨h1, _⟩ | ⟨_, h⟩)
    · rw [h0] at h1; cases h1
    · exact h)

set_option maxRecDepth 100000 in
set_option maxHeartbeats 3200000 in
theorem rmade_any (l : List SurfC) (zs : List Int) (a b : Option Addr) (m d n c : Nat) (w : World) (h : RR SurfR 22 (fun b => b < w.heap.size) w a m d l) (hm : m ≤ 1000000) (hz : IR w.heap.size w 3 b n c zs) (hn : n ≤ 1000000) :
    Calls Tryz.prog 83 #[.slice a m d, .slice b n c] w (RetMade w l zs n) := by
  have H := Lib.hid h; have Hz := Lib.hid hz; have hlen := h.1; have hnc := hz.2.1; clear h hz
  go_enter Tryz.func83, Tryz.ntmps83
  go_wp2_with ((with_reducible refine (rcopy_any l a m d _ H.out hm).mono ?_); rintro e w1 ⟨v1, rfl, ho, hb⟩; have Ho := Lib.hid ho; have Hb := Lib.hid hb; clear ho hb)
  go_loopw [6, 7] (fun v iv wr => ∃ k l', k ≤ n ∧ iv = .int .i64 (k : Int) ∧ chN l zs k = some l' ∧ OwnR SurfR 22 92 w.heap.size wr v l' ∧ Below w.heap.size w wr) (fun _ iv _ => n - (intOf iv).toNat)
  case atStart => exact ⟨0, l, by omega, rfl, rfl, Ho.out, Hb.out⟩
  case round =>
    obtain ⟨k, l', hk, rfl, hch, ho, hb⟩ := hrel
    obtain ⟨sa, sc, rfl, -⟩ := ho.sl
    have hl' := length_chN hch
    rw [hl', hlen] at ho ⊢
    have Hch := Lib.hid hch; have Ho2 := Lib.hid ho; have Hb2 := Lib.hid hb
    clear hch ho hb
    by_cases hkn : k < n
    · have hz2 := Hz.out.go Hb2.out
      have Hz2 := Lib.hid hz2
      obtain ⟨b1, off, rfl, hlt, x0, x1, x2⟩ := hz2.at3 hkn
      clear hz2
      have hnx : chN l zs (k + 1) = if againB zs k (zs.getD (k * 3) 0) (zs.getD (k * 3 + 1) 0) = false ∧ putB l' (zs.getD (k * 3) 0) (zs.getD (k * 3 + 1) 0) (zs.getD (k * 3 + 2) 0) = true then some (putL l' (zs.getD (k * 3) 0) (zs.getD (k * 3 + 1) 0) (zs.getD (k * 3 + 2) 0)) else none := by
        rw [chN, Hch.out]; rfl
      have Hnx := Lib.hid hnx; clear hnx
      generalize zs.getD (k * 3) 0 = s0 at *
      generalize zs.getD (k * 3 + 1) 0 = p0 at *
      generalize zs.getD (k * 3 + 2) 0 = v0 at *
      have hag : ∀ j, j < k → zs.getD (j * 3) 0 = s0 ∧ zs.getD (j * 3 + 1) 0 = p0 → chN l zs n = none := by
        rintro j hj ⟨h1, h2⟩
        refine chN_none (k := k + 1) ?_ (by omega)
        rw [Hnx.out, if_neg]
        rw [show againB zs k s0 p0 = true from range_any_true (f := fun k => (zs.getD (k * 3) 0 == s0) && (zs.getD (k * 3 + 1) 0 == p0)) hj (by simp only [h1, h2]; simp)]
        simp
      have Hag := Lib.hid hag; clear hag
      have hbw : Below wr.heap.size wr (wr.alloc (.cells #[.int .i64 s0, .int .i64 p0, .int .i64 v0] 102)) := (Below.refl _ _).alloc (Nat.le_refl _) _
      have hnb := heap_alloc_new wr (.cells #[.int .i64 s0, .int .i64 p0, .int .i64 v0] 102)
      have Hbw := Lib.hid hbw; have Hnb := Lib.hid hnb; clear hbw hnb
      obtain ⟨wo, rfl⟩ : ∃ wo : World, wo = wr := ⟨_, rfl⟩
      go_wp2_with fail
      clear x0 x1 x2
      go_loopw [9] (fun iv wq => ∃ j : Nat, j ≤ k ∧ iv = .int .i64 (j : Int) ∧ (List.range j).any (fun k => (zs.getD (k * 3) 0 == s0) && (zs.getD (k * 3 + 1) 0 == p0)) = false ∧ wq.heap[wo.heap.size]? = some (.cells #[.int .i64 s0, .int .i64 p0, .int .i64 v0] 102 (0, 0)) ∧ Below wo.heap.size wo wq) (fun iv _ => k - (intOf iv).toNat)
      case atStart => exact ⟨0, by omega, rfl, rfl, Hnb.out, Hbw.out⟩
      case round =>
        clear Hnb Hbw
        obtain ⟨j, hj, rfl, hd, hnb, hbw⟩ := hrel
        have hl5 := lt_of_block hnb
        obtain ⟨q0, q1, q2⟩ := cells_of_three hnb
        have Hd := Lib.hid hd; have Hnb := Lib.hid hnb; have Hbw := Lib.hid hbw; clear hd hnb hbw
        by_cases hjk : j < k
        · obtain ⟨b2, o2, e2, hlt2, z0, z1, z2⟩ := (Hz2.out.go Hbw.out).at3 (k := j) (by omega)
          cases e2
          have hnd : ((zs.getD (j * 3) 0 == s0) && (zs.getD (j * 3 + 1) 0 == p0)) = false → (List.range (j + 1)).any (fun k => (zs.getD (k * 3) 0 == s0) && (zs.getD (k * 3 + 1) 0 == p0)) = false := fun e => (range_any_next (f := fun k => (zs.getD (k * 3) 0 == s0) && (zs.getD (k * 3 + 1) 0 == p0)) Hd.out).trans e
          have hyes := Hag.out j hjk
          clear z2
          generalize zs.getD (j * 3) 0 = r0 at z0 hnd hyes
          generalize zs.getD (j * 3 + 1) 0 = r1 at z1 hnd hyes
          have Hnd := Lib.hid hnd; have Hyes := Lib.hid hyes; clear hnd hyes q2
          cases w0 : (r0 == s0) <;> cases w1 : (r1 == p0)
          all_goals
            go_wp2_with fail
            go_quiet (fail)
            go_wp2_with fail
          iterate 3
            · go_roundw
              case rel => exact ⟨j + 1, by omega, by go_num, Hnd.out (by rw [w0, w1]; rfl), by rw [World.heap_drewN]; exact Hnb.out, below_drewN Hbw.out _⟩
              case measure => simp [intOf]; omega
          · go_ret2
            exact Or.inl ⟨Hyes.out ⟨by simpa using w0, by simpa using w1⟩, rfl, below_chain Hb2.out (below_drewN Hbw.out _)⟩
        · obtain rfl : j = k := by omega
          have hag2 : againB zs j s0 p0 = false := Hd.out
          have Hag2 := Lib.hid hag2; clear hag2
          cases hpu : putB l' s0 p0 v0
          · have Hpu := Lib.hid hpu; clear hpu
            go_wp2_with ((with_reducible refine (rwith_no l' sa m sc s0 p0 v0 _ ((Ho2.out.rr surfOk).go surfOk Hbw.out) hm Hpu.out).mono ?_); rintro e w3 ⟨rfl, hb3⟩; have Hb3 := Lib.hid hb3; clear hb3)
            go_ret2
            refine Or.inl ⟨chN_none (k := j + 1) ?_ (by omega), rfl, below_chain Hb2.out (below_chain Hbw.out Hb3.out)⟩
            rw [Hnx.out, if_neg (by rw [Hpu.out]; simp)]
          · have Hpu := Lib.hid hpu; clear hpu
            go_wp2_with ((with_reducible refine (rwith_yes l' sa m sc s0 p0 v0 _ ((Ho2.out.rr surfOk).go surfOk Hbw.out) hm Hpu.out).mono ?_); rintro e w3 ⟨g, c3, rfl, ho3, hb3⟩; have Hb3 := Lib.hid hb3; rw [hl', hlen] at ho3; have Ho3 := Lib.hid (ho3.rebase surfOk (Nat.le_trans Hb2.out.size Hbw.out.size)); clear hb3 ho3)
            go_roundw
            case rel => exact ⟨j + 1, putL l' s0 p0 v0, by omega, by go_num, by rw [Hnx.out, if_pos ⟨Hag2.out, Hpu.out⟩], Ho3.out, below_chain Hb2.out (below_chain Hbw.out Hb3.out)⟩
            case measure => simp [intOf]; omega
    · obtain rfl : k = n := by omega
      by_cases h12 : k ≤ 12
      all_goals
        go_wp2
        go_ret2
        exact Or.inr ⟨l', _, Hch.out, by simp [h12] <;> omega, Ho2.out, Hb2.out⟩

end Go.Proofs.YthommhfppeonpaaGreatDoor

namespace Go.Proofs.YthommhfppeonpaaGreatDoor
open Go.RowKit

theorem rmade_ok (l : List SurfC) (x : ConfC) (a b : Option Addr) (m d n c : Nat) (w : World) (h : RR SurfR 22 (fun b => b < w.heap.size) w a m d l) (hm : m ≤ 1000000) (hz : IR w.heap.size w 3 b n c x.zs) (hn : n ≤ 1000000) :
    Calls Tryz.prog 83 #[.slice a m d, .slice b n c] w (fun e w' => ∃ v, e = .returned (.tuple #[v, .bool (cfGood l x)]) ∧ Below w.heap.size w w') := by
  have hnn : n = x.zs.length / 3 := by rw [hz.1]; omega
  refine (rmade_any l x.zs a b m d n c w h hm hz hn).mono ?_
  rintro e w' (⟨h1, rfl, hb⟩ | ⟨l', v, h1, rfl, _, hb⟩)
  · exact ⟨_, by unfold cfGood; rw [← hnn, h1], hb⟩
  · exact ⟨_, by unfold cfGood; rw [← hnn, h1], hb⟩

theorem memB_next {s k : ByteArray} {ks : List ByteArray} {j : Nat} (h : ks[j]? = some k) (h0 : memB s (ks.take j) = false) : memB s (ks.take (j + 1)) = (s == k) := any_takeS h h0
theorem memB_yes {s k : ByteArray} {ks : List ByteArray} {j i : Nat} (h : ks[j]? = some k) (hj : j < i) (he : (s == k) = true) : memB s (ks.take i) = true := by
  refine any_mem (k := j) (x := k) ?_ he
  rw [List.getElem?_take, if_pos hj]; exact h

theorem bytes_beq (a b : ByteArray) : (a.toList == b.toList) = (b == a) := by
  show _ = (b.data == a.data)
  rw [Bool.eq_iff_iff, beq_iff_eq, beq_iff_eq]
  exact ⟨fun h => by rw [bytes_inj h], fun h => by rw [ByteArray.toList_eq, ByteArray.toList_eq, h]⟩

set_option maxRecDepth 100000 in
set_option maxHeartbeats 3200000 in
theorem rconfigs_any (x : LensD) (f v s k : Ptr) (w : World) (hf : RR SurfR 22 (fun b => b < w.heap.size) w s.a s.n s.c x.l) (hn : s.n ≤ 1000000)
    (hc : RR ConfR 2 (fun b => b < w.heap.size) w k.a k.n k.c x.cf) (hk : k.n ≤ 1000000) :
    Calls Tryz.prog 89 #[lensV' x f v s k] w (RetB w (.bool (configsB x.l x.cf))) := by
  have Hf := Lib.hid hf; have Hc := Lib.hid hc
  have hlen := hc.1; clear hf hc
  obtain ⟨sa, m, sc⟩ := s
  obtain ⟨ka, n, kc⟩ := k
  simp only at *
  have hg0 : BenchB (w.alloc (.cells (cells9 x f v ⟨sa, m, sc⟩ ⟨ka, n, kc⟩).toArray 48)) w.heap.size 48 x f v ⟨sa, m, sc⟩ ⟨ka, n, kc⟩ := heap_alloc_new w _
  have hb0 := (Below.refl w.heap.size w).alloc (Nat.le_refl _) (.cells (cells9 x f v ⟨sa, m, sc⟩ ⟨ka, n, kc⟩).toArray 48)
  have Hg0 := Lib.hid hg0; have Hb0 := Lib.hid hb0; clear hg0 hb0
  unfold lensV'
  go_enter Tryz.func89, Tryz.ntmps89
  go_upto_region 1 with fail
  refine step_world (fun wx => BenchB wx w.heap.size 48 x f v ⟨sa, m, sc⟩ ⟨ka, n, kc⟩ ∧ Below w.heap.size w wx) ⟨Hg0.out, Hb0.out⟩ ?_
  clear Hg0 Hb0
  rintro w1 ⟨hg, hb⟩
  have hl := hg.lt
  obtain ⟨_, _, _, _, _, _, _, _, c8⟩ := hg.cells
  have Hg := Lib.hid hg; have Hb1 := Lib.hid hb; clear hg hb
  go_wp2_with fail
  go_loopw [3] (fun iv wr => ∃ i : Nat, i ≤ n ∧ iv = .int .i64 (i : Int) ∧ (x.cf.take i).all (cfGood x.l) = true ∧ (List.range i).all (diffGood (x.cf.map ConfC.nm)) = true ∧ Below w1.heap.size w1 wr) (fun iv _ => n - (intOf iv).toNat)
  case atStart => exact ⟨0, by omega, rfl, rfl, rfl, Below.refl _ _⟩
  case round =>
    obtain ⟨i, hi, rfl, ho, hd, hb⟩ := hrel
    have Ho := Lib.hid ho; have Hd := Lib.hid hd; have Hb := Lib.hid hb; have Hbw := Lib.hid (below_chain Hb1.out hb)
    clear ho hb hd c8
    obtain ⟨_, _, _, _, _, _, _, _, c8⟩ := (Hg.out.go Hb.out).cells
    have hgl : w.heap.size < wr.heap.size := Nat.lt_of_lt_of_le hl Hb.out.size
    have C8 := Lib.hid c8
    by_cases hin : i < n
    · have hcr := Hc.out.go confOk Hbw.out
      obtain ⟨b1, off, y, cs, rfl, hlt, hy, ⟨a2, n2, c2, rfl, hz, hn2, hc2, hg2⟩, hr⟩ := hcr.at hin
      have Hcr := Lib.hid hcr; clear hcr
      have x0 := hr 0 _ rfl; have x1 := hr 1 _ rfl
      rw [Nat.add_zero] at x0
      have hks : (x.cf.map ConfC.nm)[i]? = some y.nm := by rw [List.getElem?_map, hy]; rfl
      have hdg : diffGood (x.cf.map ConfC.nm) i = (!memB y.nm ((x.cf.map ConfC.nm).take i) && nameB y.nm) := by unfold diffGood; rw [hks]
      have hno1 : diffGood (x.cf.map ConfC.nm) i = false → configsB x.l x.cf = false := by
        intro e
        unfold configsB diffB
        rw [List.length_map, hlen, range_all_bad hin e]; simp
      have hno2 : cfGood x.l y = false → configsB x.l x.cf = false := by
        intro e
        unfold configsB
        rw [all_badS hy e]; rfl
      have Hz := Lib.hid (hz.ir (fun _ h => h)); have Hg2 := Lib.hid hg2; have Hy := Lib.hid hy; have Hdg := Lib.hid hdg; have Hno1 := Lib.hid hno1; have Hno2 := Lib.hid hno2
      have hnb := heap_alloc_new wr (.cells #[.string y.nm, .slice a2 n2 c2] 136)
      have Hnb := Lib.hid hnb
      clear hnb hr hy hz hks hdg hno1 hno2 hc2 hg2
      go_upto_region 5 with fail
      refine step_world (fun wx => wx.heap[wr.heap.size]? = some (.cells #[.string y.nm, .slice a2 n2 c2] 136 (0, 0)) ∧ Below wr.heap.size wr wx) ⟨Hnb.out, below_al (Below.refl _ _)⟩ ?_
      clear Hnb x0 x1 c8
      rintro w2 ⟨hnb, hb2⟩
      have hlw := lt_of_block hnb
      have y0 := (obj_cell hnb 0).trans rfl
      have Hnb := Lib.hid hnb; have Hb2 := Lib.hid hb2; clear hnb hb2
      cases hq : nameB y.nm
      · have Q := Lib.hid hq; clear hq
        go_wp2_with ((with_reducible refine (refName_any y.nm _ Hg2.out).mono ?_); rintro e w3 ⟨he, hb⟩; rw [Q.out] at he; subst he; have Hb3 := Lib.hid hb; clear hb)
        go_ret
        exact ⟨by rw [Hno1.out (by rw [Hdg.out, Q.out]; simp)]; rfl, below_chain Hbw.out (below_chain Hb2.out Hb3.out)⟩
      · have Q := Lib.hid hq; clear hq
        go_wp2_with ((with_reducible refine (refName_any y.nm _ Hg2.out).mono ?_); rintro e w3 ⟨he, hb⟩; rw [Q.out] at he; subst he; have Hb3 := Lib.hid hb; clear hb y0)
        go_loopw [5] (fun iv wq => ∃ j : Nat, j ≤ i ∧ iv = .int .i64 (j : Int) ∧ memB y.nm ((x.cf.map ConfC.nm).take j) = false ∧ Below w2.heap.size w2 wq) (fun iv _ => i - (intOf iv).toNat)
        case atStart => exact ⟨0, by omega, rfl, rfl, Hb3.out⟩
        case round =>
          obtain ⟨j, hj, rfl, hm, hbq⟩ := hrel
          have Hm := Lib.hid hm; have Hbq := Lib.hid hbq; have Hbwq := Lib.hid (below_chain Hb2.out hbq)
          have hnb := (hbq.block _ hlw).trans Hnb.out
          have y0 := (obj_cell hnb 0).trans rfl; have y1 := (obj_cell hnb 1).trans rfl
          have hlq := lt_of_block hnb
          have c8 := (Hbwq.out.cell (p := ⟨w.heap.size, 8, none⟩) hgl).trans C8.out
          clear hm hbq hnb
          by_cases hji : j < i
          · obtain ⟨b3, o3, z, cs3, e3, hlt3, hz, ⟨a3, n3, c3, rfl, _, _, _, _⟩, hr⟩ := (Hcr.out.go confOk Hbwq.out).at (show j < n by omega)
            cases e3
            have z0 := hr 0 _ rfl
            rw [Nat.add_zero] at z0
            have hks : (x.cf.map ConfC.nm)[j]? = some z.nm := by rw [List.getElem?_map, hz]; rfl
            have Hks := Lib.hid hks
            clear hr hz hks y1
            cases hq : (z.nm.toList == y.nm.toList)
            all_goals
              have Hq := Lib.hid ((bytes_beq z.nm y.nm).symm.trans hq)
              go_wp2_with fail
              go_quiet (fail)
              go_wp2_with fail
            · go_roundw
              case rel => exact ⟨j + 1, by omega, by go_num, (memB_next Hks.out Hm.out).trans Hq.out, below_drewN Hbq.out _⟩
              case measure => simp [intOf]; omega
            · go_ret
              exact ⟨by rw [Hno1.out (by rw [Hdg.out, memB_yes Hks.out hji Hq.out]; rfl)]; rfl, below_chain Hbw.out (below_drewN Hbwq.out _)⟩
          · obtain rfl : j = i := by omega
            have c7 := (Hbwq.out.cell (p := ⟨w.heap.size, 7, none⟩) hgl).trans ((Hg.out.go Hb.out).cells).2.2.2.2.2.2.2.1
            cases hcf : cfGood x.l y
            all_goals
              have Hcf := Lib.hid hcf; clear hcf
              go_wp2_with ((with_reducible refine (rmade_ok x.l y sa a2 m sc n2 c2 _ ((Hf.out.go surfOk Hbw.out).go surfOk Hbwq.out) hn (Hz.out.go Hbwq.out) hn2).mono ?_); rintro e w5 ⟨v5, he, hb⟩; rw [Hcf.out] at he; subst he; have Hb5 := Lib.hid hb; clear hb)
            · go_ret
              exact ⟨by rw [Hno2.out Hcf.out]; rfl, below_chain Hbw.out (below_chain Hbwq.out Hb5.out)⟩
            · go_roundw
              case rel => exact ⟨j + 1, by omega, by go_num, (all_takeS Hy.out Ho.out).trans Hcf.out, range_all_next Hd.out (by rw [Hdg.out, Hm.out, Q.out]; rfl), below_chain Hb.out (below_chain Hbwq.out Hb5.out)⟩
              case measure => simp [intOf]; omega
    · obtain rfl : i = n := by omega
      have hcf : configsB x.l x.cf = decide ((i : Int) ≤ 4) := by
        unfold configsB diffB
        have h1 := Ho.out
        rw [← hlen, List.take_length] at h1
        rw [h1, List.length_map, hlen, Hd.out]
        simp; omega
      have Hcf := Lib.hid hcf; clear hcf
      go_wp2
      go_ret
      exact ⟨by rw [Hcf.out]; simp <;> rfl, Hbw.out⟩

end Go.Proofs.YthommhfppeonpaaGreatDoor

namespace Go.Proofs.YthommhfppeonpaaGreatDoor
open Go.RowKit

theorem wpL_load_lensG {ops : Array Oper} {rest : List Oper} {op : Oper} {ac : Act} {w : World} {Q : Exit → Act → World → Prop} {g : Nat} {T : TypeId} {x : LensD} {f v s k : Ptr} (h : BenchB w g T x f v s k) (hgd : Region.wanted op (yielded ops ac.tmps) = true) (y : Operand) (ho : op.op = .load 48 y)
    (hx : ac.eval y = .pointer (some ⟨g, 0, none⟩)) (hk : wpList Tryz.prog ops Q rest (ac.put op.dst (.agg #[.string x.nm, .int .i64 x.dist, .int .i64 x.pupil, .int .i64 x.stop, .int .i64 x.prim, .slice f.a f.n f.c, .slice v.a v.n v.c, .slice s.a s.n s.c, .slice k.a k.n k.c])) w) : wpList Tryz.prog ops Q (op :: rest) ac w :=
  wpList_taken hgd fun _K hK => wp_load_mid 48 y ho g 0 hx (cells9 x f v s k) _ h.range Tryz.underlying48 rfl Tryz.infoLens (hK _ _ hk)

theorem lensV_eq (x : LensD) (f v s k : Ptr) : lensV' x f v s k = lensV x f v s k := rfl

set_option maxRecDepth 100000 in
set_option maxHeartbeats 3200000 in
theorem rRight_any (x : LensD) (f v s k : Ptr) (w : World) (hx : LensAt (fun b => b < w.heap.size) w x f v s k) :
    Calls Tryz.prog 52 #[lensV' x f v s k] w (RetB w (.bool (validB x))) := by
  have Hx := Lib.hid hx; clear hx
  have hg0 : BenchB (w.alloc (.cells (cells9 x f v s k).toArray 48)) w.heap.size 48 x f v s k := heap_alloc_new w _
  have hb0 := (Below.refl w.heap.size w).alloc (Nat.le_refl _) (.cells (cells9 x f v s k).toArray 48)
  have Hg0 := Lib.hid hg0; have Hb0 := Lib.hid hb0; clear hg0 hb0
  have hbad : ∀ j, j < 6 → validN x j = false → validB x = false := fun j hj h => range_all_bad hj h
  have hn2 : fieldsB x.dist x.fs f.n = validN x 2 := by show _ = fieldsB x.dist x.fs (x.fs.length / 2); rw [← coat_n2 Hx.out.fs]
  have hn3 : wavesB x.prim x.ws v.n = validN x 3 := by show _ = wavesB x.prim x.ws (x.ws.length / 2); rw [← coat_n2 Hx.out.ws]
  have hall : validN x 0 = true → validN x 1 = true → validN x 2 = true → validN x 3 = true → validN x 4 = true → validN x 5 = true → validB x = true := by
    intro h0 h1 h2 h3 h4 h5
    show (List.range 6).all (validN x) = true
    simp [List.range, List.range.loop, h0, h1, h2, h3, h4, h5]
  have Hbad := Lib.hid hbad; have Hn2 := Lib.hid hn2; have Hn3 := Lib.hid hn3; have Hall := Lib.hid hall
  clear hbad hn2 hn3 hall
  unfold lensV'
  go_enter Tryz.func52, Tryz.ntmps52
  go_upto_region 1 with fail
  refine step_world (fun wx => BenchB wx w.heap.size 48 x f v s k ∧ Below w.heap.size w wx) ⟨Hg0.out, Hb0.out⟩ ?_
  clear Hg0 Hb0
  rintro w1 ⟨hg, hb⟩
  have hl := hg.lt
  obtain ⟨c0, c1, c2, _⟩ := hg.cells
  have C1 := Lib.hid c1; have C2 := Lib.hid c2; have HX1 := Lib.hid (Hx.out.go hb)
  have Hg := Lib.hid hg; have Hb1 := Lib.hid hb; clear hg hb c1 c2
  have hB := Below.refl w1.heap.size w1
  cases q0 : nameB x.nm <;> cases q1 : bt x.dist 0 1000000000 <;> cases q2 : bt x.pupil 1 1000000000
  all_goals
    have Q0 := Lib.hid q0; have Q1 := Lib.hid q1; have Q2 := Lib.hid q2
    clear q0 q1 q2
    go_upto_region 3 with (first
      | ((with_reducible refine (refName_any x.nm _ Hx.out.nm).mono ?_); rintro e w2 ⟨he, hb⟩; rw [Q0.out] at he; subst he; replace hB := below_chain hB hb; have c1 := (hB.cell (p := ⟨w.heap.size, 1, none⟩) hl).trans C1.out; clear hb)
      | ((with_reducible refine (rwithin_any x.dist 0 1000000000 _).mono ?_); rintro e w3 ⟨he, hb⟩; rw [Q1.out] at he; subst he; replace hB := below_chain hB hb; have c2 := (hB.cell (p := ⟨w.heap.size, 2, none⟩) hl).trans C2.out; clear hb)
      | ((with_reducible refine (rwithin_any x.pupil 1 1000000000 _).mono ?_); rintro e w4 ⟨he, hb⟩; rw [Q2.out] at he; subst he; replace hB := below_chain hB hb; clear hb))
  iterate 4
    · go_ret
      exact ⟨by rw [Hbad.out 0 (by omega) Q0.out]; rfl, below_chain Hb1.out hB⟩
  iterate 3
    · go_ret
      exact ⟨by rw [Hbad.out 1 (by omega) (by show sizesB x.dist x.pupil = false; unfold sizesB; rw [Q1.out, Q2.out]; rfl)]; rfl, below_chain Hb1.out hB⟩
  have Hs := Lib.hid (show validN x 1 = true from by show sizesB x.dist x.pupil = true; unfold sizesB; rw [Q1.out, Q2.out]; rfl)
  clear c0 c1 c2
  cases q2 : validN x 2
  · have R2 := Lib.hid q2; clear q2
    go_wp2_with (first
      | (refine wpL_load_lens (Hg.out.go hB) rfl (.tmp 1) rfl rfl ?_)
      | ((with_reducible refine (rfields_any x f v s k _ ((HX1.out.go hB).fs.ir (fun _ h => h)) Hx.out.fn).mono ?_); rintro e w5 ⟨he, hb⟩; rw [Hn2.out, R2.out] at he; subst he; replace hB := below_chain hB hb; clear hb))
    go_ret
    exact ⟨by rw [Hbad.out 2 (by omega) R2.out]; rfl, below_chain Hb1.out hB⟩
  have R2 := Lib.hid q2; clear q2
  cases q3 : validN x 3
  · have R3 := Lib.hid q3; clear q3
    go_wp2_with (first
      | (refine wpL_load_lens (Hg.out.go hB) rfl (.tmp 1) rfl rfl ?_)
      | (refine wpL_load_lensG (Hg.out.go hB) (by rfl) (.tmp 1) rfl rfl ?_)
      | ((with_reducible refine (rfields_any x f v s k _ ((HX1.out.go hB).fs.ir (fun _ h => h)) Hx.out.fn).mono ?_); rintro e w5 ⟨he, hb⟩; rw [Hn2.out, R2.out] at he; subst he; replace hB := below_chain hB hb; clear hb)
      | ((with_reducible refine (rwaves_any x f v s k _ ((HX1.out.go hB).ws.ir (fun _ h => h)) Hx.out.wn).mono ?_); rintro e w6 ⟨he, hb⟩; rw [Hn3.out, R3.out] at he; subst he; replace hB := below_chain hB hb; clear hb))
    go_ret
    exact ⟨by rw [Hbad.out 3 (by omega) R3.out]; rfl, below_chain Hb1.out hB⟩
  have R3 := Lib.hid q3; clear q3
  cases q4 : surfacesB x.stop x.l
  · have R4 := Lib.hid q4; clear q4
    go_wp2_with (first
      | (refine wpL_load_lens (Hg.out.go hB) rfl (.tmp 1) rfl rfl ?_)
      | (refine wpL_load_lensG (Hg.out.go hB) (by rfl) (.tmp 1) rfl rfl ?_)
      | ((with_reducible refine (rfields_any x f v s k _ ((HX1.out.go hB).fs.ir (fun _ h => h)) Hx.out.fn).mono ?_); rintro e w5 ⟨he, hb⟩; rw [Hn2.out, R2.out] at he; subst he; replace hB := below_chain hB hb; clear hb)
      | ((with_reducible refine (rwaves_any x f v s k _ ((HX1.out.go hB).ws.ir (fun _ h => h)) Hx.out.wn).mono ?_); rintro e w6 ⟨he, hb⟩; rw [Hn3.out, R3.out] at he; subst he; replace hB := below_chain hB hb; clear hb)
      | ((with_reducible refine (rsurfaces_any x f v s k _ (HX1.out.go hB).l Hx.out.sn).mono ?_); rintro e w7 ⟨he, hb⟩; rw [R4.out] at he; subst he; replace hB := below_chain hB hb; clear hb))
    go_ret
    exact ⟨by rw [Hbad.out 4 (by omega) R4.out]; rfl, below_chain Hb1.out hB⟩
  have R4 := Lib.hid q4; clear q4
  have hfin : validB x = configsB x.l x.cf := by
    cases q5 : configsB x.l x.cf
    · exact Hbad.out 5 (by omega) q5
    · exact Hall.out Q0.out Hs.out R2.out R3.out R4.out q5
  have Hfin := Lib.hid hfin; clear hfin
  go_wp2_with (first
      | (refine wpL_load_lens (Hg.out.go hB) rfl (.tmp 1) rfl rfl ?_)
      | (refine wpL_load_lensG (Hg.out.go hB) (by rfl) (.tmp 1) rfl rfl ?_)
      | ((with_reducible refine (rfields_any x f v s k _ ((HX1.out.go hB).fs.ir (fun _ h => h)) Hx.out.fn).mono ?_); rintro e w5 ⟨he, hb⟩; rw [Hn2.out, R2.out] at he; subst he; replace hB := below_chain hB hb; clear hb)
      | ((with_reducible refine (rwaves_any x f v s k _ ((HX1.out.go hB).ws.ir (fun _ h => h)) Hx.out.wn).mono ?_); rintro e w6 ⟨he, hb⟩; rw [Hn3.out, R3.out] at he; subst he; replace hB := below_chain hB hb; clear hb)
      | ((with_reducible refine (rsurfaces_any x f v s k _ (HX1.out.go hB).l Hx.out.sn).mono ?_); rintro e w7 ⟨he, hb⟩; rw [R4.out] at he; subst he; replace hB := below_chain hB hb; clear hb)
      | ((with_reducible refine (rconfigs_any x f v s k _ (HX1.out.go hB).l Hx.out.sn (HX1.out.go hB).cf Hx.out.kn).mono ?_); rintro e w8 ⟨he, hb⟩; subst he; replace hB := below_chain hB hb; clear hb))
  go_ret
  exact ⟨by rw [Hfin.out]; rfl, below_chain Hb1.out hB⟩

end Go.Proofs.YthommhfppeonpaaGreatDoor

namespace Go.Proofs.YthommhfppeonpaaGreatDoor
open Go.RowKit

set_option maxRecDepth 100000 in
set_option maxHeartbeats 3200000 in
theorem rcheck_any (x : LensD) (f v s k : Ptr) (w : World) (hx : LensAt (fun b => b < w.heap.size) w x f v s k) :
    Calls Tryz.prog 27 #[lensV x f v s k] w (RetB w (err (validB x) 120)) := by
  have Hx := Lib.hid hx; clear hx
  have hg0 : BenchB (w.alloc (.cells (cells9 x f v s k).toArray 48)) w.heap.size 48 x f v s k := heap_alloc_new w _
  have hb0 := (Below.refl w.heap.size w).alloc (Nat.le_refl _) (.cells (cells9 x f v s k).toArray 48)
  have Hg0 := Lib.hid hg0; have Hb0 := Lib.hid hb0; clear hg0 hb0
  unfold lensV
  go_enter Tryz.func27, Tryz.ntmps27
  go_upto_region 1 with fail
  refine step_world (fun wx => BenchB wx w.heap.size 48 x f v s k ∧ Below w.heap.size w wx) ⟨Hg0.out, Hb0.out⟩ ?_
  clear Hg0 Hb0
  rintro w1 ⟨hg0, hb0⟩
  have Hg0 := Lib.hid hg0; have Hb0 := Lib.hid hb0; clear hg0 hb0
  cases hv : validB x
  all_goals
    have Hv := Lib.hid hv; clear hv
    go_wp2_with (first
      | (refine wpL_load_lens Hg0.out rfl (.tmp 1) rfl rfl ?_)
      | ((with_reducible refine (rRight_any x f v s k _ (Hx.out.go Hb0.out)).mono ?_); rintro e w2 ⟨he, hb⟩; rw [Hv.out] at he; subst he; have Hb2 := Lib.hid hb; clear hb))
    go_ret
    exact ⟨by rw [Hv.out]; rfl, below_chain Hb0.out Hb2.out⟩

set_option maxRecDepth 100000 in
set_option maxHeartbeats 3200000 in
theorem rHas_any (x : LensD) (f v s k : Ptr) (i p : Int) (w : World) (hx : LensAt (fun b => b < w.heap.size) w x f v s k) :
    Calls Tryz.prog 24 #[lensV x f v s k, .int .i64 i, .int .i64 p] w (RetB w (.bool (lHasB x i p))) := by
  have Hx := Lib.hid hx; clear hx
  have hg0 : BenchB (w.alloc (.cells (cells9 x f v s k).toArray 48)) w.heap.size 48 x f v s k := heap_alloc_new w _
  have hb0 := (Below.refl w.heap.size w).alloc (Nat.le_refl _) (.cells (cells9 x f v s k).toArray 48)
  have Hg0 := Lib.hid hg0; have Hb0 := Lib.hid hb0; clear hg0 hb0
  unfold lensV
  go_enter Tryz.func24, Tryz.ntmps24
  go_upto_region 1 with fail
  refine step_world (fun wx => BenchB wx w.heap.size 48 x f v s k ∧ Below w.heap.size w wx) ⟨Hg0.out, Hb0.out⟩ ?_
  clear Hg0 Hb0
  rintro w1 ⟨hg0, hb0⟩
  have Hg0 := Lib.hid hg0; have Hb0 := Lib.hid hb0; clear hg0 hb0
  cases hv : validB x
  · have Hv := Lib.hid hv
    have hl : lHasB x i p = false := by unfold lHasB; rw [hv]; rfl
    have Hl := Lib.hid hl; clear hv hl
    go_wp2_with (first
      | (refine wpL_load_lens Hg0.out rfl (.tmp 3) rfl rfl ?_)
      | ((with_reducible refine (rRight_any x f v s k _ (Hx.out.go Hb0.out)).mono ?_); rintro e w2 ⟨he, hb⟩; rw [Hv.out] at he; subst he; have Hb2 := Lib.hid hb; clear hb))
    go_ret
    exact ⟨by rw [Hl.out]; rfl, below_chain Hb0.out Hb2.out⟩
  · have Hv := Lib.hid hv
    have hl : lHasB x i p = lhasB x.l i p := by unfold lHasB; rw [hv]; rfl
    have Hl := Lib.hid hl; clear hv hl
    go_wp2_with (first
      | (refine wpL_load_lens Hg0.out rfl (.tmp 3) rfl rfl ?_)
      | ((with_reducible refine (rRight_any x f v s k _ (Hx.out.go Hb0.out)).mono ?_); rintro e w2 ⟨he, hb⟩; rw [Hv.out] at he; subst he; have Hb2 := Lib.hid (below_chain Hb0.out hb); obtain ⟨_, _, _, _, _, _, _, c7, _⟩ := (Hg0.out.go hb).cells; clear hb)
      | ((with_reducible refine (rhas_any x.l s.a s.n s.c i p _ (Hx.out.go Hb2.out).l Hx.out.sn).mono ?_); rintro e w3 ⟨he, hb⟩; subst he; have Hb3 := Lib.hid hb; clear hb))
    go_ret
    exact ⟨by rw [Hl.out]; rfl, below_chain Hb2.out Hb3.out⟩

set_option maxRecDepth 100000 in
set_option maxHeartbeats 3200000 in
theorem rGet_any (x : LensD) (f v s k : Ptr) (i p : Int) (w : World) (hx : LensAt (fun b => b < w.heap.size) w x f v s k) :
    Calls Tryz.prog 54 #[lensV x f v s k, .int .i64 i, .int .i64 p] w (RetB w (lgetV x i p)) := by
  have Hx := Lib.hid hx; clear hx
  have hg0 : BenchB (w.alloc (.cells (cells9 x f v s k).toArray 48)) w.heap.size 48 x f v s k := heap_alloc_new w _
  have hb0 := (Below.refl w.heap.size w).alloc (Nat.le_refl _) (.cells (cells9 x f v s k).toArray 48)
  have Hg0 := Lib.hid hg0; have Hb0 := Lib.hid hb0; clear hg0 hb0
  unfold lensV
  go_enter Tryz.func54, Tryz.ntmps54
  go_upto_region 1 with fail
  refine step_world (fun wx => BenchB wx w.heap.size 48 x f v s k ∧ Below w.heap.size w wx) ⟨Hg0.out, Hb0.out⟩ ?_
  clear Hg0 Hb0
  rintro w1 ⟨hg0, hb0⟩
  have Hg0 := Lib.hid hg0; have Hb0 := Lib.hid hb0; clear hg0 hb0
  cases hv : validB x
  · have hE : lgetE x i p = 120 := by unfold lgetE; rw [if_neg (by rw [hv]; simp)]
    have Hv := Lib.hid hv; have HE := Lib.hid hE; clear hv hE
    go_wp2_with (first
      | (refine wpL_load_lens Hg0.out rfl (.tmp 3) rfl rfl ?_)
      | ((with_reducible refine (rRight_any x f v s k _ (Hx.out.go Hb0.out)).mono ?_); rintro e w2 ⟨he, hb⟩; rw [Hv.out] at he; subst he; have Hb2 := Lib.hid hb; clear hb))
    go_ret2
    exact ⟨by unfold lgetV; rw [HE.out]; rfl, below_chain Hb0.out Hb2.out⟩
  · cases hh : lhasB x.l i p
    · have hE : lgetE x i p = 2 := by unfold lgetE; rw [if_pos hv, hh]; rfl
      have Hv := Lib.hid hv; have HE := Lib.hid hE; have Hh := Lib.hid hh; clear hv hE hh
      go_wp2_with (first
        | (refine wpL_load_lens Hg0.out rfl (.tmp 3) rfl rfl ?_)
        | ((with_reducible refine (rRight_any x f v s k _ (Hx.out.go Hb0.out)).mono ?_); rintro e w2 ⟨he, hb⟩; rw [Hv.out] at he; subst he; have Hb2 := Lib.hid (below_chain Hb0.out hb); obtain ⟨_, _, _, _, _, _, _, c7, _⟩ := (Hg0.out.go hb).cells; clear hb)
        | ((with_reducible refine (rhas_any x.l s.a s.n s.c i p _ (Hx.out.go Hb2.out).l Hx.out.sn).mono ?_); rintro e w3 ⟨he, hb⟩; rw [Hh.out] at he; subst he; have Hb3 := Lib.hid hb; clear hb))
      go_ret2
      exact ⟨by unfold lgetV; rw [HE.out]; rfl, below_chain Hb2.out Hb3.out⟩
    · have hE : lgetE x i p = 0 := by unfold lgetE; rw [if_pos hv, hh]; rfl
      obtain ⟨j, y, rfl, hj, hy, ho, hhb⟩ := lhasB_at hh
      have hyd : getAt x.l j p = y.s.get p := by unfold getAt; rw [Int.toNat_natCast, hy]
      have hjn : j < s.n := by rw [← Hx.out.l.1]; exact hj
      obtain ⟨b1, off, z, cs, e1, hlt, hz1, ⟨a2, n2, c2, rfl, hz, hn2, hc2, hg2⟩, hr⟩ := Hx.out.l.at hjn
      rw [hy] at hz1
      cases hz1
      obtain ⟨sa, sn, sc⟩ := s
      simp only at *
      subst e1
      have Hv := Lib.hid hv; have HE := Lib.hid hE; have Hh := Lib.hid hh; have Hyd := Lib.hid hyd; have Hho := Lib.hid ho; have Hhb := Lib.hid hhb; have Hnn := Lib.hid (coat_n hz); have Hz := Lib.hid (hz.ir (fun _ h => h)); have Hr := Lib.hid hr; have Hg2 := Lib.hid hg2
      clear hv hE hh hyd ho hhb hz hr hg2 hc2 hy hj
      go_wp2_with (first
        | (refine wpL_load_lens Hg0.out rfl (.tmp 3) rfl rfl ?_)
        | ((with_reducible refine (rRight_any x f v ⟨some ⟨b1, off, none⟩, sn, sc⟩ k _ (Hx.out.go Hb0.out)).mono ?_); rintro e w2 ⟨he, hb⟩; rw [Hv.out] at he; subst he; have Hb2 := Lib.hid (below_chain Hb0.out hb); have Hg2' := Lib.hid (Hg0.out.go hb); obtain ⟨_, _, _, _, _, _, _, c7, _⟩ := Hg2'.out.cells; clear hb)
        | ((with_reducible refine (rhas_any x.l _ sn sc j p _ (Hx.out.go Hb2.out).l Hx.out.sn).mono ?_); rintro e w3 ⟨he, hb⟩; rw [Hh.out] at he; subst he; have Hb3 := Lib.hid (below_chain Hb2.out hb); clear c7; obtain ⟨_, _, _, _, _, _, _, c7, _⟩ := (Hg2'.out.go hb).cells; clear hb)
        | (refine wpL_load_at (rangeAt_kept Hr.out (keptOn_below Hb3.out) hlt) rfl (.tmp 20) rfl rfl ?_)
        | ((with_reducible refine (refGet_any y.s y.zs p a2 n2 c2 _ (Hz.out.go Hb3.out) hn2 Hg2.out).mono ?_); rintro e w4 ⟨he, hb4⟩; have hm : missI y.s y.zs n2 p = 0 := (by unfold missI; rw [if_pos (show okS y.s y.zs n2 = true from by (have := Hho.out; unfold okC at this; rwa [← Hnn.out] at this)), if_pos Hhb.out]); (unfold getV at he; rw [if_pos hm] at he); subst he; have Hb4 := Lib.hid hb4; clear hb4))
      go_ret2
      exact ⟨by unfold lgetV; rw [HE.out, Hyd.out]; rfl, below_chain Hb3.out Hb4.out⟩

end Go.Proofs.YthommhfppeonpaaGreatDoor

namespace Go.Proofs.YthommhfppeonpaaGreatDoor
open Go.RowKit

/-- Set: an error, or the lens with the parameter set -/
def RetRSet (D : Nat → Prop) (w : World) (x : LensD) (i p va : Int) (e : Ending) (w' : World) : Prop :=
  (lsetE x i p va ≠ 0 ∧ e = .returned (.tuple #[lensV lens0 ptr0 ptr0 ptr0 ptr0, .int .i64 (lsetE x i p va)]) ∧ Below w.heap.size w w') ∨
  (lsetE x i p va = 0 ∧ ∃ f v s k, e = .returned (.tuple #[lensV (lsetX x i p va) f v s k, .int .i64 0]) ∧ LensAt (fun b => (D b ∨ w.heap.size + 2 ≤ b) ∧ b < w'.heap.size) w' (lsetX x i p va) f v s k ∧ Below w.heap.size w w')

theorem rset_at {D : Nat → Prop} {w w3 : World} {x : LensD} {i p va : Int} {f v s k : Ptr} {g c base : Nat} {u : Value} (hD : ∀ b, D b → b < w.heap.size) (hx : LensAt D w x f v s k) (hb : Below w.heap.size w w3) (ho : OwnR SurfR 22 92 base w3 (.slice (some ⟨g, 0, none⟩) x.l.length c) (putL x.l i p va)) (hbase : w.heap.size + 1 < base) :
    LensAt (fun b => (D b ∨ w.heap.size + 2 ≤ b) ∧ b < (w3.setCell ⟨w.heap.size, 7, none⟩ u).heap.size) (w3.setCell ⟨w.heap.size, 7, none⟩ u) (lsetX x i p va) f v ⟨some ⟨g, 0, none⟩, x.l.length, c⟩ k := by
  have hs : (w3.setCell ⟨w.heap.size, 7, none⟩ u).heap.size = w3.heap.size := size_setCells w.heap.size [u] 7 w3
  have hk : KeptOn (fun b => b ≠ w.heap.size) w3 (w3.setCell ⟨w.heap.size, 7, none⟩ u) := keptOn_setCells w.heap.size [u] 7 w3
  have h3 := hx.kept ((keptOn_below hb).mono hD) (T := D) (fun b h => h)
  have h4 : LensAt (fun b => (D b ∨ w.heap.size + 2 ≤ b) ∧ b < (w3.setCell ⟨w.heap.size, 7, none⟩ u).heap.size) (w3.setCell ⟨w.heap.size, 7, none⟩ u) x f v s k :=
    h3.kept (hk.mono (fun b h => Nat.ne_of_lt (hD b h))) (fun b h => ⟨Or.inl h, by rw [hs]; exact Nat.lt_of_lt_of_le (hD b h) hb.size⟩)
  have hl : s.n = x.l.length := hx.l.1.symm
  refine ⟨h4.fs, h4.ws, ?_, h4.cf, h4.fn, h4.wn, by rw [← hl]; exact h4.sn, h4.kn, h4.fc, h4.wc, h4.nm⟩
  exact (ho.rr2 surfOk).kept surfOk (hk.mono (fun b h => by have := h.1; omega)) (fun b h => ⟨Or.inr (by have := h.1; omega), by rw [hs]; exact h.2⟩)

set_option maxRecDepth 100000 in
set_option maxHeartbeats 3200000 in
theorem rSet_any (D : Nat → Prop) (x : LensD) (f v s k : Ptr) (i p va : Int) (w : World) (hD : ∀ b, D b → b < w.heap.size) (hx0 : LensAt D w x f v s k) :
    Calls Tryz.prog 55 #[lensV x f v s k, .int .i64 i, .int .i64 p, .int .i64 va] w (RetRSet D w x i p va) := by
  have hx : LensAt (fun b => b < w.heap.size) w x f v s k := hx0.kept (KeptOn.refl _ _) hD
  have Hx := Lib.hid hx; have Hx0 := Lib.hid hx0; have HD := Lib.hid hD; clear hx hx0 hD
  obtain ⟨e1, e2⟩ := heap_two w (.cells (cells9 x f v s k).toArray 48) (.cells #[.string emptyS, .int .i64 0, .int .i64 0, .int .i64 0, .int .i64 0, .slice none 0 0, .slice none 0 0, .slice none 0 0, .slice none 0 0] 48)
  have hb := below_two (w := w) (.cells (cells9 x f v s k).toArray 48) (.cells #[.string emptyS, .int .i64 0, .int .i64 0, .int .i64 0, .int .i64 0, .slice none 0 0, .slice none 0 0, .slice none 0 0, .slice none 0 0] 48)
  have E1 := Lib.hid e1; have E2 := Lib.hid e2; have Hb := Lib.hid hb
  clear e1 e2 hb
  unfold lensV
  go_enter Tryz.func55, Tryz.ntmps55
  go_upto_region 1 with fail
  refine step_world (fun wx => BenchB wx w.heap.size 48 x f v s k ∧ wx.heap[w.heap.size + 1]? = some (.cells #[.string emptyS, .int .i64 0, .int .i64 0, .int .i64 0, .int .i64 0, .slice none 0 0, .slice none 0 0, .slice none 0 0, .slice none 0 0] 48 (0, 0)) ∧ Below w.heap.size w wx) ⟨E1.out, E2.out, Hb.out⟩ ?_
  clear E1 E2 Hb
  rintro w1 ⟨h1, h2, hb⟩
  have hl2 := lt_of_block h2
  have hl1 : w.heap.size < w1.heap.size := by omega
  have H1 := Lib.hid h1; have H2 := Lib.hid h2; have Hb := Lib.hid hb
  clear h1 h2 hb
  cases hv : validB x
  · have hE : lsetE x i p va = 120 := by unfold lsetE; rw [if_neg (by rw [hv]; simp)]
    have HE := Lib.hid hE; have Hv := Lib.hid hv; clear hE hv
    go_wp2_with (first
      | (refine wpL_load_lens H1.out rfl (.tmp 4) rfl rfl ?_)
      | ((with_reducible refine (rRight_any x f v s k _ (Hx.out.go Hb.out)).mono ?_); rintro e w2 ⟨he, hb⟩; rw [Hv.out] at he; subst he; have Hb2 := Lib.hid (below_chain Hb.out hb); have H22 := Lib.hid ((hb.block _ hl2).trans H2.out); clear hb)
      | (refine wpL_store_lens lens0 ptr0 ptr0 ptr0 ptr0 H22.out rfl rfl (.tmp 8) (.tmp 15) rfl rfl rfl ?_; intro w3 h3 e3; have H3 := Lib.hid h3; have He3 := Lib.hid e3; clear h3 e3 H22))
    refine bodyPost_ret (ret_lens_tmp rfl rfl rfl H3.out) rfl ?_
    refine Or.inl ⟨by rw [HE.out]; decide, by rw [HE.out]; rfl, ?_⟩
    rw [He3.out]
    exact below_setCells (Nat.le_succ _) _ _ Hb2.out
  cases hp : putB x.l i p va
  · have hE : lsetE x i p va = 2 := by unfold lsetE; rw [if_pos hv, if_neg (by rw [hp]; simp)]
    have HE := Lib.hid hE; have Hv := Lib.hid hv; have Hp := Lib.hid hp; clear hE hv hp
    go_wp2_with (first
      | (refine wpL_load_lens H1.out rfl (.tmp 4) rfl rfl ?_)
      | ((with_reducible refine (rRight_any x f v s k _ (Hx.out.go Hb.out)).mono ?_); rintro e w2 ⟨he, hb⟩; rw [Hv.out] at he; subst he; have Hb2 := Lib.hid (below_chain Hb.out hb); have H22 := Lib.hid ((hb.block _ hl2).trans H2.out); obtain ⟨_, _, _, _, _, _, _, c7, _⟩ := (H1.out.go hb).cells; have hl22 := Nat.lt_of_lt_of_le hl2 hb.size; clear hb)
      | ((with_reducible refine (rwith_no x.l s.a s.n s.c i p va _ (Hx.out.go Hb2.out).l Hx.out.sn Hp.out).mono ?_); rintro e w3 ⟨he, hb⟩; subst he; have Hb3 := Lib.hid (below_chain Hb2.out hb); have H23 := Lib.hid ((hb.block _ hl22).trans H22.out); clear hb)
      | (refine wpL_store_lens lens0 ptr0 ptr0 ptr0 ptr0 H23.out rfl rfl (.tmp 8) (.tmp 27) rfl rfl rfl ?_; intro w4 h4 e4; have H4 := Lib.hid h4; have He4 := Lib.hid e4; clear h4 e4 H23))
    refine bodyPost_ret (ret_lens_tmp rfl rfl rfl H4.out) rfl ?_
    refine Or.inl ⟨by rw [HE.out]; decide, by rw [HE.out]; rfl, ?_⟩
    rw [He4.out]
    exact below_setCells (Nat.le_succ _) _ _ Hb3.out
  have Hv := Lib.hid hv; have Hp := Lib.hid hp; clear hp hv
  go_upto_region 7 with (first
    | (refine wpL_load_lens H1.out rfl (.tmp 4) rfl rfl ?_)
    | ((with_reducible refine (rRight_any x f v s k _ (Hx.out.go Hb.out)).mono ?_); rintro e w2 ⟨he, hb⟩; rw [Hv.out] at he; subst he; have Hb2 := Lib.hid (below_chain Hb.out hb); have H12 := Lib.hid (H1.out.go hb); have H22 := Lib.hid ((hb.block _ hl2).trans H2.out); obtain ⟨_, _, _, _, _, _, _, c7, _⟩ := H12.out.cells; have hl22 := Nat.lt_of_lt_of_le hl2 hb.size; clear hb)
    | ((with_reducible refine (rwith_yes x.l s.a s.n s.c i p va _ (Hx.out.go Hb2.out).l Hx.out.sn Hp.out).mono ?_); rintro e w3 ⟨g, c, he, ho, hb⟩; subst he; clear c7; obtain ⟨_, _, _, _, _, _, _, c7, _⟩ := (H12.out.go hb).cells; have f7 := (H12.out.go hb).free 7; have Hb3 := Lib.hid (below_chain Hb2.out hb); have H13 := Lib.hid (H12.out.go hb); have H23 := Lib.hid ((hb.block _ hl22).trans H22.out); have Ho := Lib.hid ho; clear hb ho))
  have hset := rset_at (u := .slice (some ⟨g, 0, none⟩) x.l.length c) HD.out Hx0.out Hb3.out Ho.out hl22
  have hbl : BenchB (w3.setCell ⟨w.heap.size, 7, none⟩ (.slice (some ⟨g, 0, none⟩) x.l.length c)) w.heap.size 48 (lsetX x i p va) f v ⟨some ⟨g, 0, none⟩, x.l.length, c⟩ k := obj_setCell H13.out 7 _
  refine step_world (fun wx => LensAt (fun b => (D b ∨ w.heap.size + 2 ≤ b) ∧ b < wx.heap.size) wx (lsetX x i p va) f v ⟨some ⟨g, 0, none⟩, x.l.length, c⟩ k ∧ BenchB wx w.heap.size 48 (lsetX x i p va) f v ⟨some ⟨g, 0, none⟩, x.l.length, c⟩ k ∧ wx.heap[w.heap.size + 1]? = some (.cells #[.string emptyS, .int .i64 0, .int .i64 0, .int .i64 0, .int .i64 0, .slice none 0 0, .slice none 0 0, .slice none 0 0, .slice none 0 0] 48 (0, 0)) ∧ Below w.heap.size w wx) ⟨hset, hbl, obj_other H23.out _ (by simp) _, Hb3.out.setCell (p := ⟨w.heap.size, 7, none⟩) (Nat.le_refl _) _⟩ ?_
  clear hset hbl H1 H2 Hb Hb2 H12 H22 Hb3 H13 H23 Ho f7 c7 hl22 hl1 hl2
  rintro w4 ⟨hx4, h14, h24, hb4⟩
  have hl4 := lt_of_block h24
  have H14 := Lib.hid h14; have H24 := Lib.hid h24; have Hb4 := Lib.hid hb4; have Hx4 := Lib.hid hx4
  clear h14 h24 hb4 hx4
  cases hv2 : validB (lsetX x i p va)
  · have hE : lsetE x i p va = 2 := by unfold lsetE; rw [if_pos Hv.out, if_neg (by rw [hv2]; simp)]
    have HE := Lib.hid hE; have Hv2 := Lib.hid hv2; clear hE hv2
    go_wp2_with (first
      | (refine wpL_load_lens H14.out rfl (.tmp 4) rfl rfl ?_)
      | ((with_reducible refine (rRight_any (lsetX x i p va) f v ⟨some ⟨g, 0, none⟩, x.l.length, c⟩ k _ (Hx4.out.kept (KeptOn.refl _ _) (fun b h => h.2))).mono ?_); rintro e w5 ⟨he, hb⟩; rw [Hv2.out] at he; subst he; have Hb5 := Lib.hid (below_chain Hb4.out hb); have H25 := Lib.hid ((hb.block _ hl4).trans H24.out); clear hb)
      | (refine wpL_store_lens lens0 ptr0 ptr0 ptr0 ptr0 H25.out rfl rfl (.tmp 8) (.tmp 33) rfl rfl rfl ?_; intro w6 h6 e6; have H6 := Lib.hid h6; have He6 := Lib.hid e6; clear h6 e6 H25))
    refine bodyPost_ret (ret_lens_tmp rfl rfl rfl H6.out) rfl ?_
    refine Or.inl ⟨by rw [HE.out]; decide, by rw [HE.out]; rfl, ?_⟩
    rw [He6.out]
    exact below_setCells (Nat.le_succ _) _ _ Hb5.out
  · have hE : lsetE x i p va = 0 := by unfold lsetE; rw [if_pos Hv.out, if_pos ⟨Hp.out, hv2⟩]
    have HE := Lib.hid hE; have Hv2 := Lib.hid hv2; clear hE hv2
    go_wp2_with (first
      | (refine wpL_load_lens H14.out rfl (.tmp 4) rfl rfl ?_)
      | (refine wpL_load_lens H15.out rfl (.tmp 4) rfl rfl ?_)
      | ((with_reducible refine (rRight_any (lsetX x i p va) f v ⟨some ⟨g, 0, none⟩, x.l.length, c⟩ k _ (Hx4.out.kept (KeptOn.refl _ _) (fun b h => h.2))).mono ?_); rintro e w5 ⟨he, hb⟩; rw [Hv2.out] at he; subst he; have Hx5 := Lib.hid (Hx4.out.kept (T := fun b => (D b ∨ w.heap.size + 2 ≤ b) ∧ b < w5.heap.size) ((keptOn_below hb).mono (fun b h => h.2)) (fun b h => ⟨h.1, Nat.lt_of_lt_of_le h.2 hb.size⟩)); have Hb5 := Lib.hid (below_chain Hb4.out hb); have H15 := Lib.hid (H14.out.go hb); have H25 := Lib.hid ((hb.block _ hl4).trans H24.out); clear hb)
      | (refine wpL_store_lens (lsetX x i p va) f v ⟨some ⟨g, 0, none⟩, x.l.length, c⟩ k H25.out rfl rfl (.tmp 8) (.tmp 34) rfl rfl rfl ?_; intro w6 h6 e6; have H6 := Lib.hid h6; have He6 := Lib.hid e6; clear h6 e6 H25))
    refine bodyPost_ret (ret_lens_tmp rfl rfl rfl H6.out) rfl ?_
    refine Or.inr ⟨HE.out, _, _, _, _, rfl, ?_, ?_⟩
    · rw [He6.out]
      exact Hx5.out.kept ((keptOn_setCells (w.heap.size + 1) _ 0 w5).mono (fun b h => by rcases h.1 with h | h; have := HD.out b h; omega; omega)) (fun b h => ⟨h.1, by rw [size_setCells]; exact h.2⟩)
    · rw [He6.out]
      exact below_setCells (Nat.le_succ _) _ _ Hb5.out

end Go.Proofs.YthommhfppeonpaaGreatDoor

namespace Go.Proofs.YthommhfppeonpaaGreatDoor
open Go.RowKit

theorem results_cell_tmp2 {fn : Func} {p u v : Tmp} {ty : TypeId} (h : fn.results = #[.cell p ty, .tmp u, .tmp v]) (tmps : Array Value) (P : Program) (w : World) :
    (results fn tmps).run P w =
      ((asAddr (tmps.getD p undef)).run P w).andThen fun a w₁ => ((loadVar ty a).run P w₁).andThen fun x w₂ => .ok (.tuple #[x, tmps.getD u undef, tmps.getD v undef]) w₂ := by
  simp only [results, h]
  simp [Sem.run_bind, Result.andThen]

theorem ret_lens_tmp2 {fn : Func} {p u u2 : Tmp} {tmps : Array Value} {w : World} {g : Nat} {x : LensD} {f v s k : Ptr} {e e2 : Value} (h : fn.results = #[.cell p 48, .tmp u, .tmp u2]) (hp : tmps.getD p undef = .pointer (some ⟨g, 0, none⟩)) (hu : tmps.getD u undef = e) (hu2 : tmps.getD u2 undef = e2) (hs : BenchB w g 48 x f v s k) :
    (results fn tmps).run Tryz.prog w = .ok (.tuple #[lensV x f v s k, e, e2]) w := by
  rw [results_cell_tmp2 h, hp, hu, hu2]
  simp only [asAddr, Sem.run_pure, Result.andThen_ok]
  rw [run_loadVar_row w g 48 48 _ (0, 0) _ hs Tryz.underlying48 rfl Tryz.infoLens]
  rfl

theorem ycheck_ok {x : LensD} {ss : List Int} {n : Nat} (h : ycheckE x ss n = 0) : n ≤ 12 ∧ SprIn ss n ∧ ∀ i, i < n → lHasB x (ss.getD (i * 4) 0) (ss.getD (i * 4 + 1) 0) = true := by
  unfold ycheckE at h
  split at h
  · split at h
    · cases h
    · split at h
      · cases h
      · split at h
        · rename_i h1 h2 h3 h4
          have hg := fun i hi => List.all_eq_true.1 h4 i (List.mem_range.2 hi)
          refine ⟨by omega, fun i hi => ?_, fun i hi => ?_⟩
          · have := hg i hi
            unfold sprGood sprOk at this
            simp only [Bool.and_eq_true, decide_eq_true_eq] at this
            exact ⟨this.2.1.1.2, this.2.1.2, this.2.2⟩
          · have := hg i hi
            unfold sprGood sprOk at this
            simp only [Bool.and_eq_true, decide_eq_true_eq] at this
            exact this.2.1.1.1
        · cases h
  · cases h

/-- what Sample gives back -/
def RetYS (w : World) (x : LensD) (ss : List Int) (n : Nat) (st : Int) (e : Ending) (w' : World) : Prop :=
  Below w.heap.size w w' ∧
  ((ycheckE x ss n ≠ 0 ∧ e = .returned (.tuple #[lensV lens0 ptr0 ptr0 ptr0 ptr0, .int .u64 0, .int .i64 (ycheckE x ss n)])) ∨
   (ycheckE x ss n = 0 ∧ ∃ y f v s k, smpN x ss st n = .ok y ∧ e = .returned (.tuple #[lensV y f v s k, .int .u64 (stN st n), .int .i64 0]) ∧ LensAt (fun b => b < w'.heap.size) w' y f v s k) ∨
   (ycheckE x ss n = 0 ∧ ∃ er, smpN x ss st n = .error er ∧ er ≠ 0 ∧ e = .returned (.tuple #[lensV lens0 ptr0 ptr0 ptr0 ptr0, .int .u64 (stN st n), .int .i64 er])))

set_option maxRecDepth 100000 in
set_option maxHeartbeats 3200000 in
theorem ySample_any (x : LensD) (f v s k : Ptr) (ss : List Int) (sa : Option Addr) (n sc : Nat) (st : Int) (w : World) (hx : LensAt (fun b => b < w.heap.size) w x f v s k) (hP : Places w.heap.size w) (hs : IR w.heap.size w 4 sa n sc ss) (hn : n ≤ 1000000) :
    Calls Tryz.prog 13 #[lensV x f v s k, .slice sa n sc, .int .u64 st] w (RetYS w x ss n st) := by
  have Hx := Lib.hid hx; have HP := Lib.hid hP; have Hs := Lib.hid hs
  clear hx hP hs
  obtain ⟨e1, e2⟩ := heap_two w (.cells (cells9 x f v s k).toArray 48) (.cells #[.string emptyS, .int .i64 0, .int .i64 0, .int .i64 0, .int .i64 0, .slice none 0 0, .slice none 0 0, .slice none 0 0, .slice none 0 0] 48)
  have hb := below_two (w := w) (.cells (cells9 x f v s k).toArray 48) (.cells #[.string emptyS, .int .i64 0, .int .i64 0, .int .i64 0, .int .i64 0, .slice none 0 0, .slice none 0 0, .slice none 0 0, .slice none 0 0] 48)
  have E1 := Lib.hid e1; have E2 := Lib.hid e2; have Hb := Lib.hid hb
  clear e1 e2 hb
  unfold lensV
  go_enter Tryz.func13, Tryz.ntmps13
  go_upto_region 1 with fail
  refine step_world (fun wx => wx.heap[w.heap.size]? = some (.cells (cells9 x f v s k).toArray 48 (0, 0)) ∧ wx.heap[w.heap.size + 1]? = some (.cells #[.string emptyS, .int .i64 0, .int .i64 0, .int .i64 0, .int .i64 0, .slice none 0 0, .slice none 0 0, .slice none 0 0, .slice none 0 0] 48 (0, 0)) ∧ Below w.heap.size w wx) ⟨E1.out, E2.out, Hb.out⟩ ?_
  clear E1 E2 Hb
  rintro w1 ⟨h1, h2, hb⟩
  have hl1 := lt_of_block h1; have hl2 := lt_of_block h2
  have H1 := Lib.hid h1; have H2 := Lib.hid h2; have Hb := Lib.hid hb
  clear h1 h2 hb
  go_wp2_with (refine wpL_load_lens (g := w.heap.size) (x := x) (f := f) (v := v) (s := s) (k := k) H1.out rfl _ rfl rfl ?_)
  refine (ycheck_any x f v s k ss sa n sc _ (Hx.out.go Hb.out) (HP.out.go Hb.out) (Hs.out.go Hb.out) hn).mono ?_
  rintro e w2 ⟨rfl, hb2⟩
  have L1 := Lib.hid ((hb2.block _ hl1).trans H1.out); have L2 := Lib.hid ((hb2.block _ hl2).trans H2.out); have Hb2 := Lib.hid (below_chain Hb.out hb2)
  have hm1 := Nat.lt_of_lt_of_le hl1 hb2.size; have hm2 := Nat.lt_of_lt_of_le hl2 hb2.size
  clear H1 H2 Hb hb2 hl1 hl2
  by_cases hc : ycheckE x ss n = 0
  · obtain ⟨c1, c2, c3⟩ := ycheck_ok hc
    have C2 := Lib.hid c2; have C3 := Lib.hid c3; have Hc := Lib.hid hc
    rw [hc]
    clear c2 c3 hc
    go_upto_region 5 with fail
    have hnd := heap_alloc_new w2 (.cells #[.int .u64 st] 71)
    refine step_world (fun wx => wx.heap.size = w2.heap.size + 1 ∧ wx.heap[w2.heap.size]? = some (.cells #[.int .u64 st] 71 (0, 0)) ∧ Below w2.heap.size w2 wx) ⟨by simp, hnd, below_al (Below.refl _ _)⟩ ?_
    clear hnd
    rintro w3 ⟨hs3, hnd, hb3⟩
    have Hnd := Lib.hid hnd; have Hb3 := Lib.hid hb3; have Hs3 := Lib.hid hs3
    have hx3 : LensAt (fun b => b < w.heap.size) w3 x f v s k := (Hx.out.kept (keptOn_below Hb2.out) (fun b h => h)).kept ((keptOn_below hb3).mono (fun b h => Nat.lt_of_lt_of_le h Hb2.out.size)) (fun b h => h)
    have hp3 : Places w2.heap.size w3 := ((HP.out.below Hb2.out).mono Hb2.out.size).below hb3
    have hs4 : IR w2.heap.size w3 4 sa n sc ss := ((Hs.out.below Hb2.out (Nat.le_refl _)).mono Hb2.out.size).below hb3 (Nat.le_refl _)
    have M1 := Lib.hid ((hb3.block _ hm1).trans L1.out); have M2 := Lib.hid ((hb3.block _ hm2).trans L2.out)
    clear hnd hb3 hs3 L1 L2
    go_wp2_with (refine wpL_load_lens (g := w.heap.size) (x := x) (f := f) (v := v) (s := s) (k := k) M1.out rfl _ rfl rfl ?_)
    refine (ysample_any (fun b => b < w.heap.size) x f v s k ss sa n sc w2.heap.size st _ Hs3.out (fun b h => Nat.lt_of_lt_of_le h Hb2.out.size) hx3 hp3 hs4 c1 C2.out C3.out Hnd.out).mono ?_
    rintro e w4 ⟨hb4, hd4, hres⟩
    have hb24 : Below w2.heap.size w2 w4 := Hb3.out.trans hb4
    have N2 := Lib.hid ((hb4.block _ hm2).trans M2.out)
    have Hd4 := Lib.hid hd4
    have hld := lt_of_block hd4
    have Hb4 := Lib.hid (below_chain Hb2.out hb24)
    have hs24 := hb24.size
    clear hb4 hd4 hb24 M1 M2 hx3 hp3 hs4
    have hpn : w2.heap.size ≠ w.heap.size + 1 := by omega
    have hgen : ∀ (y : LensD) (f' v' s' k' : Ptr) (er : Int), e = .returned (.tuple #[lensV y f' v' s' k', .int .i64 er]) → True := fun _ _ _ _ _ _ _ => trivial
    clear hgen
    rcases hres with ⟨y, f', v', s', k', hy, rfl, hl⟩ | ⟨er, hy, hne, rfl⟩
    · have Hy := Lib.hid hy; clear hy
      go_upto_region 6 with (refine wpL_store_lens y f' v' s' k' N2.out rfl rfl (.tmp 6) (.tmp 26) rfl rfl rfl ?_; intro w5 h5 e5; have H5 := Lib.hid h5; have He5 := Lib.hid e5; clear h5 e5 N2)
      have hk5 : KeptOn (fun b => b ≠ w.heap.size + 1) w4 w5 := by rw [He5.out]; exact keptOn_setCells _ _ _ _
      have hd5 := (hk5 _ hpn).trans Hd4.out
      have Hb5 : Hid (Below w.heap.size w w5) := Lib.hid (by rw [He5.out]; exact below_setCells (Nat.le_succ _) _ _ Hb4.out)
      have Hd5 := Lib.hid hd5
      clear hk5 hd5
      refine wp_region_eagerK (S := fun b => b = w2.heap.size ∨ b = w.heap.size + 1) 8 [(0, true), (1, true), (2, true), (3, true), (4, true), (5, true), (6, false), (7, true)] (by kernel_rfl) (by kernel_rfl) ?_
      refine wpOrd_yieldK rfl (fun _ _ _ h => h) (by rfl) (fun z hz => lens9_load (b := w.heap.size + 1) (T := 48) ((hz _ (Or.inr rfl)).trans H5.out) Tryz.underlying48 rfl Tryz.infoLens _ rfl rfl) ?_
      try simp only [Act.put, List.setIfInBounds_toArray, List.set_cons_zero, List.set_cons_succ]
      iterate 5
        refine wpOrd_yieldK (v := ?_) rfl (fun _ _ _ h => h) (by rfl) ?_ ?_
        rotate_left
        · intro z hz
          have z0 := (obj_cell ((hz _ (Or.inl rfl)).trans Hd5.out) 0).trans rfl
          go_simp
          with_reducible rfl
        try simp only [Act.put, List.setIfInBounds_toArray, List.set_cons_zero, List.set_cons_succ]
      refine wpOrd_stepK rfl rfl (fun K hK => ?_)
      refine wp_store_mid 48 (.tmp 6) (.tmp 28) rfl (w.heap.size + 1) 0 (cells9 y f' v' s' k').toArray rfl rfl (there_block (w := w5.drew) H5.out rfl) Tryz.infoLens (by simp [cells9, Value.oneCell']) ?_
      have H6 : BenchB (w5.drew.setCells (w.heap.size + 1) 0 (cells9 y f' v' s' k')) (w.heap.size + 1) 48 y f' v' s' k' := heap_setAll (w := w5.drew) H5.out rfl
      refine hK _ _ (fun b hb => ?_) ?_
      · rcases hb with rfl | rfl
        · exact keptOn_setCells _ _ _ _ _ hpn
        · exact H6.trans H5.out.symm
      clear hK K
      have hsz : (w5.drew.setCells (w.heap.size + 1) 0 (cells9 y f' v' s' k')).heap.size = w5.heap.size := size_setCells _ _ _ _
      have hb6 : Below w.heap.size w (w5.drew.setCells (w.heap.size + 1) 0 (cells9 y f' v' s' k')) := below_setCells (Nat.le_succ _) _ _ (below_dr' Hb5.out)
      have hk6 := keptOn_setCells (w.heap.size + 1) (cells9 y f' v' s' k') 0 w5.drew
      generalize w5.drew.setCells (w.heap.size + 1) 0 (cells9 y f' v' s' k') = w6 at *
      try simp only [Act.put]
      refine wpOrd_yieldK (v := ?_) rfl (fun _ _ _ h => h) (by rfl) ?_ ?_
      rotate_left
      · intro z hz
        go_simp
        with_reducible rfl
      try simp only [Act.put, List.setIfInBounds_toArray, List.set_cons_zero, List.set_cons_succ]
      refine wpOrd_nilK (l := [_]) rfl ?_
      have H6' := Lib.hid H6; have Hb6 := Lib.hid hb6; have Hk6 := Lib.hid hk6; have Hsz := Lib.hid hsz
      clear H6 hb6 hk6 hsz
      go_wp2
      refine bodyPost_ret (ret_lens_tmp2 rfl rfl rfl rfl H6'.out) rfl ?_
      have Hsz5 : Hid (w5.heap.size = w4.heap.size) := Lib.hid (by rw [He5.out, size_setCells])
      have Hk5 : Hid (KeptOn (fun b => b ≠ w.heap.size + 1) w4 w5) := Lib.hid (by rw [He5.out]; exact keptOn_setCells _ _ _ _)
      have hs3' := Hs3.out
      have hne1 : ∀ b, ((b < w.heap.size ∨ w3.heap.size + 3 ≤ b) ∧ b < w4.heap.size) → b ≠ w.heap.size + 1 := fun b h => by
        have := Hb2.out.size
        omega
      exact ⟨Hb6.out, Or.inr (Or.inl ⟨Hc.out, y, f', v', s', k', Hy.out, rfl, hl.kept ((Hk5.out.mono hne1).trans (show KeptOn _ w5 w6 from Hk6.out.mono hne1)) (fun b h => by rw [Hsz.out, Hsz5.out]; exact h.2)⟩)⟩
    · have Hy := Lib.hid hy; clear hy
      go_upto_region 6 with (refine wpL_store_lens lens0 ptr0 ptr0 ptr0 ptr0 N2.out rfl rfl (.tmp 6) (.tmp 26) rfl rfl rfl ?_; intro w5 h5 e5; have H5 := Lib.hid h5; have He5 := Lib.hid e5; clear h5 e5 N2)
      have hk5 : KeptOn (fun b => b ≠ w.heap.size + 1) w4 w5 := by rw [He5.out]; exact keptOn_setCells _ _ _ _
      have hd5 := (hk5 _ hpn).trans Hd4.out
      have Hb5 : Hid (Below w.heap.size w w5) := Lib.hid (by rw [He5.out]; exact below_setCells (Nat.le_succ _) _ _ Hb4.out)
      have Hd5 := Lib.hid hd5
      clear hk5 hd5
      refine wp_region_eagerK (S := fun b => b = w2.heap.size ∨ b = w.heap.size + 1) 8 [(0, true), (1, true), (2, true), (3, true), (4, true), (5, true), (6, false), (7, true)] (by kernel_rfl) (by kernel_rfl) ?_
      refine wpOrd_yieldK rfl (fun _ _ _ h => h) (by rfl) (fun z hz => lens9_load (b := w.heap.size + 1) (T := 48) ((hz _ (Or.inr rfl)).trans H5.out) Tryz.underlying48 rfl Tryz.infoLens _ rfl rfl) ?_
      try simp only [Act.put, List.setIfInBounds_toArray, List.set_cons_zero, List.set_cons_succ]
      iterate 5
        refine wpOrd_yieldK (v := ?_) rfl (fun _ _ _ h => h) (by rfl) ?_ ?_
        rotate_left
        · intro z hz
          have z0 := (obj_cell ((hz _ (Or.inl rfl)).trans Hd5.out) 0).trans rfl
          go_simp
          with_reducible rfl
        try simp only [Act.put, List.setIfInBounds_toArray, List.set_cons_zero, List.set_cons_succ]
      refine wpOrd_stepK rfl rfl (fun K hK => ?_)
      refine wp_store_mid 48 (.tmp 6) (.tmp 28) rfl (w.heap.size + 1) 0 (cells9 lens0 ptr0 ptr0 ptr0 ptr0).toArray rfl rfl (there_block (w := w5.drew) H5.out rfl) Tryz.infoLens (by simp [cells9, Value.oneCell']) ?_
      have H6 : BenchB (w5.drew.setCells (w.heap.size + 1) 0 (cells9 lens0 ptr0 ptr0 ptr0 ptr0)) (w.heap.size + 1) 48 lens0 ptr0 ptr0 ptr0 ptr0 := heap_setAll (w := w5.drew) H5.out rfl
      refine hK _ _ (fun b hb => ?_) ?_
      · rcases hb with rfl | rfl
        · exact keptOn_setCells _ _ _ _ _ hpn
        · exact H6.trans H5.out.symm
      clear hK K
      have hsz : (w5.drew.setCells (w.heap.size + 1) 0 (cells9 lens0 ptr0 ptr0 ptr0 ptr0)).heap.size = w5.heap.size := size_setCells _ _ _ _
      have hb6 : Below w.heap.size w (w5.drew.setCells (w.heap.size + 1) 0 (cells9 lens0 ptr0 ptr0 ptr0 ptr0)) := below_setCells (Nat.le_succ _) _ _ (below_dr' Hb5.out)
      have hk6 := keptOn_setCells (w.heap.size + 1) (cells9 lens0 ptr0 ptr0 ptr0 ptr0) 0 w5.drew
      generalize w5.drew.setCells (w.heap.size + 1) 0 (cells9 lens0 ptr0 ptr0 ptr0 ptr0) = w6 at *
      try simp only [Act.put]
      refine wpOrd_yieldK (v := ?_) rfl (fun _ _ _ h => h) (by rfl) ?_ ?_
      rotate_left
      · intro z hz
        go_simp
        with_reducible rfl
      try simp only [Act.put, List.setIfInBounds_toArray, List.set_cons_zero, List.set_cons_succ]
      refine wpOrd_nilK (l := [_]) rfl ?_
      have H6' := Lib.hid H6; have Hb6 := Lib.hid hb6; have Hk6 := Lib.hid hk6; have Hsz := Lib.hid hsz
      clear H6 hb6 hk6 hsz
      go_wp2
      refine bodyPost_ret (ret_lens_tmp2 rfl rfl rfl rfl H6'.out) rfl ?_
      exact ⟨Hb6.out, Or.inr (Or.inr ⟨Hc.out, er, Hy.out, hne, rfl⟩)⟩
  · have hne : (ycheckE x ss n != 0) = true := by simpa using hc
    have Hc := Lib.hid hc
    generalize hce : ycheckE x ss n = ce at *
    have Hce := Lib.hid hce
    clear hc hce
    go_wp2_with (refine wpL_store_lens lens0 ptr0 ptr0 ptr0 ptr0 L2.out rfl rfl _ _ rfl rfl rfl ?_; intro w3 h3 e3; have H3 := Lib.hid h3; have He3 := Lib.hid e3; clear h3 e3 L2)
    refine bodyPost_ret (ret_lens_tmp2 rfl rfl rfl rfl H3.out) rfl ?_
    refine ⟨by rw [He3.out]; exact below_setCells (Nat.le_succ _) _ _ Hb2.out, Or.inl ⟨by rw [Hce.out]; exact Hc.out, by rw [Hce.out]; rfl⟩⟩

end Go.Proofs.YthommhfppeonpaaGreatDoor

namespace Go.Proofs.YthommhfppeonpaaGreatDoor
open Go.RowKit

theorem rnext_any (s : Int) (w : World) : Calls Tryz.prog 21 #[.int .u64 s] w (RetB w (.int .u64 (nextS s))) := by
  go_enter Tryz.func21, Tryz.ntmps21
  go_wp2
  go_ret
  exact ⟨rfl, Below.refl _ _⟩

set_option maxHeartbeats 400000 in
theorem rdraw_no (s n : Int) (w : World) (h : n < 1 ∨ 2147483648 < n) :
    Calls Tryz.prog 7 #[.int .u64 s, .int .i64 n] w (Ret3 w (.int .u64 0) (.int .i64 0) (.int .i64 2)) := by
  rcases h with h | h
  all_goals
    go_enter Tryz.func7, Tryz.ntmps7
    go_wp2
    go_ret3
    exact ⟨rfl, Below.refl _ _⟩

set_option maxHeartbeats 400000 in
theorem rdraw_any (s n : Int) (w : World) (hn : 1 ≤ n) (hn2 : n ≤ 2147483648) :
    Calls Tryz.prog 7 #[.int .u64 s, .int .i64 n] w (Ret3 w (.int .u64 (nextS s)) (.int .i64 (pickS (nextS s) n)) (.int .i64 0)) := by
  have h1 : ¬ n < 1 := by omega
  have h2 : ¬ 2147483648 < n := by omega
  have h0 : (n == 0) = false := by simp; omega
  have hq : IntKind.u64.wrap ((nextS s).tdiv 8589934592) = nextS s / 8589934592 := by
    obtain ⟨q1, q2⟩ := nextS_range s
    rw [Int.tdiv_eq_ediv_of_nonneg q1]
    have hw : ∀ z : Int, IntKind.u64.wrap z = z % 18446744073709551616 := fun z => by simp [IntKind.wrap, IntKind.bits, IntKind.signed]
    rw [hw]
    omega
  go_enter Tryz.func7, Tryz.ntmps7
  go_wp2_with ((with_reducible refine (rnext_any s _).mono ?_); rintro e w1 ⟨he, hb1⟩; subst he)
  go_quiet (fail)
  go_wp2
  go_ret3
  exact ⟨rfl, below_drewN hb1 _⟩

end Go.Proofs.YthommhfppeonpaaGreatDoor

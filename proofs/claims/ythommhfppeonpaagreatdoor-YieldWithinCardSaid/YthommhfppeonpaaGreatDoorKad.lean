/-
  DERIVED. Several texts in one: LensU, RlB, RlF, RlI, RsfE, RlD.
-/
import Derived.Test.YthommhfppeonpaaGreatDoorKac
import Derived.Test.YthommhfppeonpaaGreatDoorJRlE
import Derived.Test.YthommhfppeonpaaGreatDoorKab
namespace Go.Proofs.YthommhfppeonpaaGreatDoor
open Go.RowKit

def cfGood (l : List SurfC) (c : ConfC) : Bool := match chN l c.zs (c.zs.length / 3) with
  | none => false
  | some _ => decide (c.zs.length / 3 ≤ 12)
def configsB (l : List SurfC) (cf : List ConfC) : Bool := cf.all (cfGood l) && decide (cf.length ≤ 4) && diffB (cf.map ConfC.nm)

/-- .. its length said -/
theorem wpList_append_recN {ops : Array Oper} {rest : List Oper} {o : Oper} {a : Act} {Q : Exit → Act → World → Prop} {W : World} {α : Type} {R : Rep α} {k : Nat} (ok : RepOk k R) {T ST : TypeId} {z : Value} {bytes : Nat} (hST : Tryz.prog.underlying ST = some (.slice T)) (hT : (Tryz.prog.info? T).map (fun i => (i.zero, i.size, i.bytes)) = some (some z, k, bytes)) (hz : z.cells.size = k) (hk : 0 < k) (hby : bytes ≤ 10000)
    (hgd : o.guard = none) (s x : Operand)
    (ho : o.op = .call { callee := .builtin .append, args := #[s, x], argTypes := #[ST, ST] }) (base : Nat) (w : World) (v : Value) (l : List α) (y : α) (cs : List Value)
    (N : Nat) (hN : l.length = N) (hs : a.eval s = v) (hrow : OwnR R k T base w v l) (hW : W = w.alloc (.cells cs.toArray T)) (hx : a.eval x = .slice (some ⟨w.heap.size, 0, none⟩) 1 1) (hy : R (fun b => base ≤ b ∧ b < w.heap.size ∧ v.ownBlock ≠ some b) w y cs) (hlen : l.length ≤ 1000000) (hbase : base ≤ w.heap.size)
    (h : ∀ g cap w', OwnR R k T base w' (.slice (some ⟨g, 0, none⟩) (N + 1) cap) (l ++ [y]) → (∀ B w0, B ≤ base → Below B w0 w → Below B w0 w') → KeptOn (fun b => b < w.heap.size ∧ v.ownBlock ≠ some b) w w' → w.heap.size ≤ w'.heap.size → wpList Tryz.prog ops Q rest (a.put o.dst (.slice (some ⟨g, 0, none⟩) (N + 1) cap)) w') :
    wpList Tryz.prog ops Q (o :: rest) a W := by
  subst hN
  exact wpList_append_rec2 ok hST hT hz hk hby hgd s x ho base w v l y cs hs hrow hW hx hy hlen hbase h

theorem Tryz.infoString1 : (Tryz.prog.info? 9).map (fun i => (i.zero, i.size, i.bytes)) = some (some (.string emptyS), 1, 16) := by kernel_rfl
theorem all_takeS {α : Type} {f : α → Bool} {l : List α} {k : Nat} {x : α} (h : l[k]? = some x) (h0 : (l.take k).all f = true) : (l.take (k + 1)).all f = f x := by
  rw [take_next h, List.all_append, h0]; simp
theorem all_badS {α : Type} {f : α → Bool} {l : List α} {k : Nat} {x : α} (h : l[k]? = some x) (h0 : f x = false) : l.all f = false := by
  rw [Bool.eq_false_iff]; intro ha
  have := List.all_eq_true.1 ha x (List.mem_of_getElem? h)
  rw [h0] at this; cases this

set_option maxRecDepth 100000 in
set_option maxHeartbeats 3200000 in
theorem lconfigs_any (x : LensD) (f v s k : Ptr) (g : Nat) (T : TypeId) (w : World) (hg : BenchB w g T x f v s k) (hf : RR SurfR 22 (fun b => b < w.heap.size) w s.a s.n s.c x.l) (hn : s.n ≤ 1000000)
    (hc : RR ConfR 2 (fun b => b < w.heap.size) w k.a k.n k.c x.cf) (hk : k.n ≤ 1000000) (hp : Places w.heap.size w) :
    Calls Tryz.prog 74 #[.pointer (some ⟨g, 0, none⟩)] w (RetB w (.bool (configsB x.l x.cf))) := by
  have Hg := Lib.hid hg; have Hf := Lib.hid hf; have Hc := Lib.hid hc; have Hp := Lib.hid hp
  have hlen := hc.1; clear hg hf hc hp
  obtain ⟨sa, n, sc⟩ := s
  obtain ⟨ka, m, kc⟩ := k
  simp only at *
  obtain ⟨_, _, _, _, _, _, _, _, c8⟩ := Hg.out.cells
  have hl := Hg.out.lt
  go_enter Tryz.func74, Tryz.ntmps74
  go_wp2_with fail
  go_loopw [3, 14] (fun nv iv wr => ∃ i : Nat, i ≤ m ∧ iv = .int .i64 (i : Int) ∧ OwnR StrR 1 9 w.heap.size wr nv ((x.cf.take i).map ConfC.nm) ∧ (x.cf.take i).all (cfGood x.l) = true ∧ Below w.heap.size w wr) (fun _ iv _ => m - (intOf iv).toNat)
  case atStart => exact ⟨0, by omega, rfl, OwnR.nil _ _ _ _ _, rfl, Below.refl _ _⟩
  case round =>
    clear c8
    obtain ⟨i, hi, rfl, ho, ha, hb⟩ := hrel
    have Ho := Lib.hid ho; have Hb := Lib.hid hb; have Ha := Lib.hid ha
    clear ho hb ha
    have hgl : g < wr.heap.size := Nat.lt_of_lt_of_le hl Hb.out.size
    by_cases hin : i < m
    · obtain ⟨b1, off, y, cs, rfl, hlt, hy, ⟨a2, n2, c2, rfl, hz, hn2, hc2, hg2⟩, hr⟩ := Hc.out.at hin
      have x0 := (Hb.out.cell (p := ⟨b1, off + i * 2 + 0, none⟩) hlt).trans (hr 0 _ rfl)
      have x1 := (Hb.out.cell (p := ⟨b1, off + i * 2 + 1, none⟩) hlt).trans (hr 1 _ rfl)
      rw [Nat.add_zero] at x0
      have hnn := coat_n hz
      have Hy := Lib.hid hy; have Hz := Lib.hid (hz.ir (fun _ h => h)); have Hnn := Lib.hid hnn; have Hg2 := Lib.hid hg2
      clear hr hy hz hnn hc2 hg2
      have hl1 : ((x.cf.take i).map ConfC.nm).length = i := by rw [List.length_map, List.length_take, hlen]; omega
      have Hl1 := Lib.hid hl1; clear hl1
      have hb1 : Below wr.heap.size wr (wr.alloc (.cells #[.string y.nm, .slice a2 n2 c2] 136)) := below_al (Below.refl _ _)
      have Hb1 := Lib.hid hb1; clear hb1
      have hnb := heap_alloc_new wr (.cells #[.string y.nm, .slice a2 n2 c2] 136)
      have Hnb := Lib.hid hnb; clear hnb
      go_upto_region 5 with fail
      refine step_world (fun wx => wx.heap[wr.heap.size]? = some (.cells #[.string y.nm, .slice a2 n2 c2] 136 (0, 0)) ∧ Below wr.heap.size wr wx) ⟨Hnb.out, Hb1.out⟩ ?_
      clear Hnb Hb1
      rintro w2 ⟨hnb, hb1⟩
      have d0 : w2.cell? ⟨wr.heap.size, 0, none⟩ = some (.string y.nm) := (obj_cell hnb 0).trans rfl
      have hl2 := lt_of_block hnb
      have Hnb := Lib.hid hnb; have Hb1 := Lib.hid hb1; clear hnb hb1
      go_upto_region 6 with (refine wpList_append_recN strOk Tryz.underlying163 Tryz.infoString1 rfl (by omega) (by omega) rfl (.tmp 18) (.tmp 21) rfl w.heap.size w2 u3 ((x.cf.take i).map ConfC.nm) y.nm [.string y.nm] i Hl1.out rfl (Ho.out.go strOk Hb1.out) rfl rfl ⟨rfl, Hg2.out⟩ (by rw [Hl1.out]; omega) (Nat.le_trans Hb.out.size Hb1.out.size) ?_; intro g3 cap3 w3 ho3 hb3 hk3 hs3)
      have Ho3 := Lib.hid ho3
      have Hb3 := Lib.hid (hb3 _ _ (Nat.le_refl _) (below_chain Hb.out Hb1.out))
      have Hs3 := Lib.hid (Nat.le_trans Hb1.out.size hs3)
      have Hn3 := Lib.hid ((hk3 wr.heap.size ⟨hl2, Ho.out.fresh (Nat.le_refl _)⟩).trans Hnb.out)
      have Hk3 := Lib.hid hk3
      clear ho3 hb3 hk3 hs3
      have hl3 : wr.heap.size < w3.heap.size := lt_of_block Hn3.out
      have hgl3 : g < w3.heap.size := by have := Hs3.out; omega
      have d1 : w3.cell? ⟨wr.heap.size, 1, none⟩ = some (.slice a2 n2 c2) := (obj_cell Hn3.out 1).trans rfl
      obtain ⟨_, _, _, _, _, _, _, c7, _⟩ := (Hg.out.go Hb3.out).cells
      refine wp_region_floats 13 [] [] [(0, true), (1, true), (2, true), (3, true), (4, true), (5, true), (6, true), (7, false), (8, true), (9, true), (10, true), (11, true), (12, true)] (by kernel_rfl) (by kernel_rfl) ⟨by simp, by simp, fun _ h => by cases h⟩ (fun _ _ _ _ _ h => h) (fun _ _ o _ _ h => by cases o <;> exact h) ?_
      iterate 7
        refine wpG_yield (v := ?_) rfl rfl (by rfl) ?_ ?_
        rotate_left
        · intro y hy
          have z7 := (hy.cell (p := ⟨g, 7, none⟩) hgl3).trans c7
          have z1 := (hy.cell (p := ⟨wr.heap.size, 1, none⟩) hl3).trans d1
          go_simp
          with_reducible rfl
        try simp only [Act.put, List.setIfInBounds_toArray, List.set_cons_zero, List.set_cons_succ]
      refine wpG_step rfl rfl (fun x1 hx1 K hK => ?_)
      go_simp
      have hx1' : Below w3.heap.size w3 x1 := below_undrew (k := 1) hx1
      have Hx1 := Lib.hid (below_chain Hb3.out hx1')
      have hcd : ∀ b, cfGood x.l y = b → (b = true → (x.cf.take (i + 1)).all (cfGood x.l) = true) ∧ (b = false → configsB x.l x.cf = false) := by
        intro b hb
        refine ⟨fun e => (all_takeS Hy.out Ha.out).trans (hb.trans e), fun e => ?_⟩
        unfold configsB
        rw [all_badS Hy.out (hb.trans e)]; rfl
      have hdef : cfGood x.l y = (match chN x.l y.zs n2 with | none => false | some _ => decide (n2 ≤ 12)) := by unfold cfGood; rw [← Hnn.out]
      have Hcd := Lib.hid hcd; have Hdef := Lib.hid hdef; clear hcd hdef
      refine (changed_any x.l y.zs sa a2 n sc n2 c2 _ (Hf.out.go surfOk Hx1.out) hn (Hz.out.go Hx1.out) hn2 (Hp.out.go Hx1.out)).mono ?_
      rintro e w4 (⟨h1, rfl, hb4⟩ | ⟨l', g', m', c', h1, rfl, ho4, hb4⟩)
      · refine hK _ _ hb4 ?_
        clear hK K
        have Hb4 := Lib.hid (below_chain Hb3.out (below_chain hx1' hb4)); clear hb4 hx1 hx1'
        iterate 5
          refine wpG_pure (v := ?_) rfl (by rfl) ?_ ?_
          rotate_left
          · intro y
            go_simp
            with_reducible rfl
          try simp only [Act.put, List.setIfInBounds_toArray, List.set_cons_zero, List.set_cons_succ]
        refine wpG_nil0 (l := []) rfl (fun w5 hb5 => ?_)
        have Hb5 := Lib.hid (below_chain Hb4.out hb5); clear hb5
        go_wp2
        go_ret
        refine ⟨?_, Hb5.out⟩
        rw [(Hcd.out false (by rw [Hdef.out, h1])).2 rfl]; rfl
      · refine hK _ _ hb4 ?_
        clear hK K
        have Hb34 := Lib.hid (below_chain hx1' hb4)
        have Hb4 := Lib.hid (below_chain Hb3.out (below_chain hx1' hb4)); clear hb4 hx1 hx1' ho4
        by_cases h12 : n2 ≤ 12
        all_goals
          have H12 := Lib.hid h12
          iterate 5
            refine wpG_pure (v := ?_) rfl (by rfl) ?_ ?_
            rotate_left
            · intro y
              go_simp
              with_reducible rfl
            try simp only [Act.put, List.setIfInBounds_toArray, List.set_cons_zero, List.set_cons_succ]
          refine wpG_nil0 (l := []) rfl (fun w5 hb5 => ?_)
          have Hb35 := Lib.hid (below_chain Hb34.out hb5)
          have Hb5 := Lib.hid (below_chain Hb4.out hb5); clear hb5
          go_wp2_with fail
        · go_roundw
          case rel => exact ⟨i + 1, by omega, by go_num, by rw [take_next Hy.out, List.map_append]; exact Ho3.out.go strOk Hb35.out, (Hcd.out true (by rw [Hdef.out, h1]; simp [H12.out])).1 rfl, Hb5.out⟩
          case measure => simp [intOf]; omega
        · go_ret
          refine ⟨?_, Hb5.out⟩
          rw [(Hcd.out false (by rw [Hdef.out, h1]; simp [H12.out])).2 rfl]; rfl
    · obtain rfl : i = m := by omega
      obtain ⟨_, _, _, _, _, _, _, _, c8⟩ := (Hg.out.go Hb.out).cells
      have ho2 := Ho.out
      have ha2 := Ha.out
      rw [← hlen, List.take_length] at ho2 ha2
      have hcd : configsB x.l x.cf = (decide (i ≤ 4) && diffB (x.cf.map ConfC.nm)) := by unfold configsB; rw [ha2, hlen]; rfl
      have Hcd := Lib.hid hcd; clear hcd
      have hv : ∃ a c, u3 = .slice a i c := by
        rcases ho2.form with ⟨rfl, e⟩ | ⟨g, cap, rfl, _, _, _, _, _⟩
        · have : i = 0 := by rw [← hlen]; have := congrArg List.length e; simpa using this
          subst this; exact ⟨none, 0, rfl⟩
        · exact ⟨_, _, by rw [List.length_map, hlen]⟩
      obtain ⟨av, cv, rfl⟩ := hv
      have Hrr := Lib.hid (ho2.rr strOk)
      clear ho2 ha2
      by_cases h4 : i ≤ 4
      all_goals
        go_wp2_with ((with_reducible refine (different_any (x.cf.map ConfC.nm) av i cv _ Hrr.out hk).mono ?_); rintro e w2 ⟨he, hb2⟩; subst he; have Hb2 := Lib.hid hb2; clear hb2)
        go_ret
      · exact ⟨by rw [Hcd.out]; simp [h4], below_chain Hb.out Hb2.out⟩
      · exact ⟨by rw [Hcd.out]; simp [h4], Hb.out⟩

end Go.Proofs.YthommhfppeonpaaGreatDoor

namespace Go.Proofs.YthommhfppeonpaaGreatDoor
open Go.RowKit

/-- a lens as an argument -/
abbrev lensV' (x : LensD) (f v s k : Ptr) : Value := .agg #[.string x.nm, .int .i64 x.dist, .int .i64 x.pupil, .int .i64 x.stop, .int .i64 x.prim, .slice f.a f.n f.c, .slice v.a v.n v.c, .slice s.a s.n s.c, .slice k.a k.n k.c]

set_option maxRecDepth 100000 in
set_option maxHeartbeats 3200000 in
theorem rfields_any (x : LensD) (f v s k : Ptr) (w : World) (hf : IR w.heap.size w 2 f.a f.n f.c x.fs) (hn : f.n ≤ 1000000) :
    Calls Tryz.prog 86 #[lensV' x f v s k] w (RetB w (.bool (fieldsB x.dist x.fs f.n))) := by
  have Hf := Lib.hid hf; clear hf
  obtain ⟨fa, n, fc⟩ := f
  simp only at *
  show Calls _ _ _ w (RetB w (.bool (fieldsB x.dist x.fs n)))
  have hm : ∃ most : Int, fldMost x.dist = most ∧ 0 ≤ most ∧ most ≤ 1000000000 ∧ ((x.dist = 0 ∧ most = 1000000) ∨ ((x.dist == 0) = false ∧ most = 1000000000)) := by
    by_cases h0 : x.dist = 0
    · exact ⟨1000000, by unfold fldMost; rw [if_pos h0], by omega, by omega, Or.inl ⟨h0, rfl⟩⟩
    · exact ⟨1000000000, by unfold fldMost; rw [if_neg h0], by omega, by omega, Or.inr ⟨by simpa using h0, rfl⟩⟩
  obtain ⟨most, hm0, hm1, hm2, hmm⟩ := hm
  have Hm0 := Lib.hid hm0; clear hm0
  have hg0 : BenchB (w.alloc (.cells (cells9 x ⟨fa, n, fc⟩ v s k).toArray 48)) w.heap.size 48 x ⟨fa, n, fc⟩ v s k := heap_alloc_new w _
  have hb0 := (Below.refl w.heap.size w).alloc (Nat.le_refl _) (.cells (cells9 x ⟨fa, n, fc⟩ v s k).toArray 48)
  have Hg0 := Lib.hid hg0; have Hb0 := Lib.hid hb0; clear hg0 hb0
  unfold lensV'
  rcases hmm with ⟨hd, rfl⟩ | ⟨hd, rfl⟩
  · have Hd := Lib.hid hd; clear hd
    go_enter Tryz.func86, Tryz.ntmps86
    go_upto_region 1 with fail
    refine step_world (fun wx => BenchB wx w.heap.size 48 x ⟨fa, n, fc⟩ v s k ∧ Below w.heap.size w wx) ⟨Hg0.out, Hb0.out⟩ ?_
    clear Hg0 Hb0
    rintro w1 ⟨hg, hb⟩
    have hl := hg.lt
    obtain ⟨_, c1, _, _, _, c5, _⟩ := hg.cells
    have Hg := Lib.hid hg; have Hb1 := Lib.hid hb; clear hg hb
    rw [Hd.out] at c1
    go_wp2_with fail
    go_loopw [4] (fun iv wr => ∃ i : Nat, i ≤ n ∧ iv = .int .i64 (i : Int) ∧ (List.range i).all (fldGood (fldMost x.dist) x.fs) = true ∧ Below w1.heap.size w1 wr) (fun iv _ => n - (intOf iv).toNat)
    case atStart => exact ⟨0, by omega, rfl, rfl, Below.refl _ _⟩
    case round =>
      obtain ⟨i, hi, rfl, ho, hb⟩ := hrel
      have Ho := Lib.hid ho; have Hb := Lib.hid hb; have Hbw := Lib.hid (below_chain Hb1.out hb)
      clear ho hb c1 c5
      obtain ⟨_, _, _, _, _, c5, _⟩ := (Hg.out.go Hb.out).cells
      have hgl : w.heap.size < wr.heap.size := Nat.lt_of_lt_of_le hl Hb.out.size
      by_cases hin : i < n
      · obtain ⟨b1, off, rfl, hlt, x0, x1⟩ := (Hf.out.go Hbw.out).at2 hin
        have hf2 := Hf.out.go Hbw.out
        have hnc := hf2.2.1
        have Hf2 := Lib.hid hf2; clear hf2
        have hgood : ∀ b, fldGood (fldMost x.dist) x.fs i = b → (b = true → (List.range (i + 1)).all (fldGood (fldMost x.dist) x.fs) = true) ∧ (b = false → fieldsB x.dist x.fs n = false) := by
          intro b hb
          refine ⟨fun e => range_all_next Ho.out (hb.trans e), fun e => ?_⟩
          unfold fieldsB
          rw [range_all_bad hin (hb.trans e)]; rfl
        have Hgood := Lib.hid hgood; clear hgood
        have hok : fldOk (fldMost x.dist) x.fs i = (bt (x.fs.getD (i * 2) 0) (-1000000) 1000000 && bt (x.fs.getD (i * 2 + 1) 0) (-1000000) 1000000) := by unfold fldOk; rw [Hm0.out]
        have Hok := Lib.hid hok; clear hok
        have hdu : ∀ j, fldDup x.fs i j = decide (x.fs.getD (i * 2) 0 = x.fs.getD (j * 2) 0 ∧ x.fs.getD (i * 2 + 1) 0 = x.fs.getD (j * 2 + 1) 0) := fun j => rfl
        generalize hp0 : x.fs.getD (i * 2) 0 = p0 at *
        generalize hp1 : x.fs.getD (i * 2 + 1) 0 = p1 at *
        have Hdu := Lib.hid hdu; have HP0 := Lib.hid hp0; have HP1 := Lib.hid hp1; clear hdu hp0 hp1
        cases hq0 : bt p0 (-1000000) 1000000 <;> cases hq1 : bt p1 (-1000000) 1000000
        all_goals
          have Q0 := Lib.hid hq0; have Q1 := Lib.hid hq1; clear hq0 hq1
          go_wp2_with (first
            | ((with_reducible refine (rwithin_any p0 _ _ _).mono ?_); rintro e w2 ⟨he, hb⟩; rw [Q0.out] at he; subst he; clear c5; have c5 := (Hg.out.go (below_chain Hb.out hb)).cells.2.2.2.2.2.1; replace x1 := (hb.cell (p := ⟨b1, off + i * 2 + 1, none⟩) hlt).trans x1; have Hb3 := Lib.hid hb; clear hb)
            | ((with_reducible refine (rwithin_any p1 _ _ _).mono ?_); rintro e w3 ⟨he, hb⟩; rw [Q1.out] at he; subst he; have Hb4 := Lib.hid hb; clear hb))
        · go_ret
          refine ⟨?_, below_chain Hbw.out Hb3.out⟩
          rw [(Hgood.out false (by unfold fldGood; rw [Hok.out, Q0.out]; rfl)).2 rfl]
          rfl
        · go_ret
          refine ⟨?_, below_chain Hbw.out Hb3.out⟩
          rw [(Hgood.out false (by unfold fldGood; rw [Hok.out, Q0.out]; rfl)).2 rfl]
          rfl
        · go_ret
          refine ⟨?_, below_chain Hbw.out (below_chain Hb3.out Hb4.out)⟩
          rw [(Hgood.out false (by unfold fldGood; rw [Hok.out, Q0.out, Q1.out]; rfl)).2 rfl]
          rfl
        · obtain ⟨wo, rfl⟩ : ∃ wo : World, wo = w3 := ⟨_, rfl⟩
          have Hb34 := Lib.hid (below_chain Hb3.out Hb4.out)
          clear x0 x1 c5
          go_loopw [5] (fun iv wq => ∃ j : Nat, j ≤ i ∧ iv = .int .i64 (j : Int) ∧ (List.range j).any (fldDup x.fs i) = false ∧ Below wr.heap.size wr wq) (fun iv _ => i - (intOf iv).toNat)
          case atStart => exact ⟨0, by omega, rfl, rfl, Hb34.out⟩
          case round =>
            obtain ⟨j, hj, rfl, hd2, hb2⟩ := hrel
            have Hd2 := Lib.hid hd2; have Hb2 := Lib.hid hb2; clear hd2 hb2
            by_cases hji : j < i
            · obtain ⟨b3, o3, e3, hlt3, x0, x1⟩ := (Hf2.out.go Hb2.out).at2 hin
              cases e3
              obtain ⟨b2, o2, e2, hlt2, z0, z1⟩ := (Hf2.out.go Hb2.out).at2 (k := j) (by omega)
              cases e2
              obtain ⟨_, _, _, _, _, c5, _⟩ := (Hg.out.go (below_chain Hb.out Hb2.out)).cells
              have hnd := Hdu.out j
              rw [HP0.out] at x0; rw [HP1.out] at x1
              generalize x.fs.getD (j * 2) 0 = r0 at *
              generalize x.fs.getD (j * 2 + 1) 0 = r1 at *
              have Hnd := Lib.hid hnd; clear hnd
              have hways : (p0 = r0 ∧ p1 = r1) ∨ ¬ (p0 = r0 ∧ p1 = r1) ∧ (((p0 == r0) = false) ∨ (p0 = r0 ∧ (p1 == r1) = false)) := by
                simp only [beq_eq_false_iff_ne]; omega
              rcases hways with ⟨rfl, rfl⟩ | ⟨hne, hw⟩
              · go_wp2_with fail
                go_quiet (fail)
                go_wp2_with fail
                go_ret
                refine ⟨?_, below_chain Hbw.out (below_drewN Hb2.out _)⟩
                rw [(Hgood.out false (by unfold fldGood; rw [range_any_true hji (Hnd.out.trans (by simp))]; simp)).2 rfl]
                rfl
              · have Hne := Lib.hid hne; clear hne
                rcases hw with hw | ⟨rfl, hw⟩
                all_goals
                  go_wp2_with fail
                  go_quiet (fail)
                  go_wp2_with fail
                  go_roundw
                  case rel => exact ⟨j + 1, by omega, by go_num, (range_any_next Hd2.out).trans (Hnd.out.trans (by simpa using Hne.out)), below_drewN Hb2.out _⟩
                  case measure => simp [intOf]; omega
            · obtain rfl : j = i := by omega
              go_wp2
              go_roundw
              case rel => exact ⟨j + 1, by omega, by go_num, (Hgood.out true (by unfold fldGood; rw [Hok.out, Q0.out, Q1.out, Hd2.out]; rfl)).1 rfl, below_chain Hb.out Hb2.out⟩
              case measure => simp [intOf]; omega
      · obtain rfl : i = n := by omega
        go_wp2_with ((with_reducible refine (rwithin_any _ _ _ _).mono ?_); rintro e w2 ⟨he, hb⟩; subst he)
        go_ret
        exact ⟨by unfold fieldsB; rw [Ho.out]; rfl, below_chain Hbw.out hb⟩
  · skip
    go_enter Tryz.func86, Tryz.ntmps86
    go_upto_region 1 with fail
    refine step_world (fun wx => BenchB wx w.heap.size 48 x ⟨fa, n, fc⟩ v s k ∧ Below w.heap.size w wx) ⟨Hg0.out, Hb0.out⟩ ?_
    clear Hg0 Hb0
    rintro w1 ⟨hg, hb⟩
    have hl := hg.lt
    obtain ⟨_, c1, _, _, _, c5, _⟩ := hg.cells
    have Hg := Lib.hid hg; have Hb1 := Lib.hid hb; clear hg hb
    skip
    go_wp2_with fail
    go_loopw [4] (fun iv wr => ∃ i : Nat, i ≤ n ∧ iv = .int .i64 (i : Int) ∧ (List.range i).all (fldGood (fldMost x.dist) x.fs) = true ∧ Below w1.heap.size w1 wr) (fun iv _ => n - (intOf iv).toNat)
    case atStart => exact ⟨0, by omega, rfl, rfl, Below.refl _ _⟩
    case round =>
      obtain ⟨i, hi, rfl, ho, hb⟩ := hrel
      have Ho := Lib.hid ho; have Hb := Lib.hid hb; have Hbw := Lib.hid (below_chain Hb1.out hb)
      clear ho hb c1 c5
      obtain ⟨_, _, _, _, _, c5, _⟩ := (Hg.out.go Hb.out).cells
      have hgl : w.heap.size < wr.heap.size := Nat.lt_of_lt_of_le hl Hb.out.size
      by_cases hin : i < n
      · obtain ⟨b1, off, rfl, hlt, x0, x1⟩ := (Hf.out.go Hbw.out).at2 hin
        have hf2 := Hf.out.go Hbw.out
        have hnc := hf2.2.1
        have Hf2 := Lib.hid hf2; clear hf2
        have hgood : ∀ b, fldGood (fldMost x.dist) x.fs i = b → (b = true → (List.range (i + 1)).all (fldGood (fldMost x.dist) x.fs) = true) ∧ (b = false → fieldsB x.dist x.fs n = false) := by
          intro b hb
          refine ⟨fun e => range_all_next Ho.out (hb.trans e), fun e => ?_⟩
          unfold fieldsB
          rw [range_all_bad hin (hb.trans e)]; rfl
        have Hgood := Lib.hid hgood; clear hgood
        have hok : fldOk (fldMost x.dist) x.fs i = (bt (x.fs.getD (i * 2) 0) (-1000000000) 1000000000 && bt (x.fs.getD (i * 2 + 1) 0) (-1000000000) 1000000000) := by unfold fldOk; rw [Hm0.out]
        have Hok := Lib.hid hok; clear hok
        have hdu : ∀ j, fldDup x.fs i j = decide (x.fs.getD (i * 2) 0 = x.fs.getD (j * 2) 0 ∧ x.fs.getD (i * 2 + 1) 0 = x.fs.getD (j * 2 + 1) 0) := fun j => rfl
        generalize hp0 : x.fs.getD (i * 2) 0 = p0 at *
        generalize hp1 : x.fs.getD (i * 2 + 1) 0 = p1 at *
        have Hdu := Lib.hid hdu; have HP0 := Lib.hid hp0; have HP1 := Lib.hid hp1; clear hdu hp0 hp1
        cases hq0 : bt p0 (-1000000000) 1000000000 <;> cases hq1 : bt p1 (-1000000000) 1000000000
        all_goals
          have Q0 := Lib.hid hq0; have Q1 := Lib.hid hq1; clear hq0 hq1
          go_wp2_with (first
            | ((with_reducible refine (rwithin_any p0 _ _ _).mono ?_); rintro e w2 ⟨he, hb⟩; rw [Q0.out] at he; subst he; clear c5; have c5 := (Hg.out.go (below_chain Hb.out hb)).cells.2.2.2.2.2.1; replace x1 := (hb.cell (p := ⟨b1, off + i * 2 + 1, none⟩) hlt).trans x1; have Hb3 := Lib.hid hb; clear hb)
            | ((with_reducible refine (rwithin_any p1 _ _ _).mono ?_); rintro e w3 ⟨he, hb⟩; rw [Q1.out] at he; subst he; have Hb4 := Lib.hid hb; clear hb))
        · go_ret
          refine ⟨?_, below_chain Hbw.out Hb3.out⟩
          rw [(Hgood.out false (by unfold fldGood; rw [Hok.out, Q0.out]; rfl)).2 rfl]
          rfl
        · go_ret
          refine ⟨?_, below_chain Hbw.out Hb3.out⟩
          rw [(Hgood.out false (by unfold fldGood; rw [Hok.out, Q0.out]; rfl)).2 rfl]
          rfl
        · go_ret
          refine ⟨?_, below_chain Hbw.out (below_chain Hb3.out Hb4.out)⟩
          rw [(Hgood.out false (by unfold fldGood; rw [Hok.out, Q0.out, Q1.out]; rfl)).2 rfl]
          rfl
        · obtain ⟨wo, rfl⟩ : ∃ wo : World, wo = w3 := ⟨_, rfl⟩
          have Hb34 := Lib.hid (below_chain Hb3.out Hb4.out)
          clear x0 x1 c5
          go_loopw [5] (fun iv wq => ∃ j : Nat, j ≤ i ∧ iv = .int .i64 (j : Int) ∧ (List.range j).any (fldDup x.fs i) = false ∧ Below wr.heap.size wr wq) (fun iv _ => i - (intOf iv).toNat)
          case atStart => exact ⟨0, by omega, rfl, rfl, Hb34.out⟩
          case round =>
            obtain ⟨j, hj, rfl, hd2, hb2⟩ := hrel
            have Hd2 := Lib.hid hd2; have Hb2 := Lib.hid hb2; clear hd2 hb2
            by_cases hji : j < i
            · obtain ⟨b3, o3, e3, hlt3, x0, x1⟩ := (Hf2.out.go Hb2.out).at2 hin
              cases e3
              obtain ⟨b2, o2, e2, hlt2, z0, z1⟩ := (Hf2.out.go Hb2.out).at2 (k := j) (by omega)
              cases e2
              obtain ⟨_, _, _, _, _, c5, _⟩ := (Hg.out.go (below_chain Hb.out Hb2.out)).cells
              have hnd := Hdu.out j
              rw [HP0.out] at x0; rw [HP1.out] at x1
              generalize x.fs.getD (j * 2) 0 = r0 at *
              generalize x.fs.getD (j * 2 + 1) 0 = r1 at *
              have Hnd := Lib.hid hnd; clear hnd
              have hways : (p0 = r0 ∧ p1 = r1) ∨ ¬ (p0 = r0 ∧ p1 = r1) ∧ (((p0 == r0) = false) ∨ (p0 = r0 ∧ (p1 == r1) = false)) := by
                simp only [beq_eq_false_iff_ne]; omega
              rcases hways with ⟨rfl, rfl⟩ | ⟨hne, hw⟩
              · go_wp2_with fail
                go_quiet (fail)
                go_wp2_with fail
                go_ret
                refine ⟨?_, below_chain Hbw.out (below_drewN Hb2.out _)⟩
                rw [(Hgood.out false (by unfold fldGood; rw [range_any_true hji (Hnd.out.trans (by simp))]; simp)).2 rfl]
                rfl
              · have Hne := Lib.hid hne; clear hne
                rcases hw with hw | ⟨rfl, hw⟩
                all_goals
                  go_wp2_with fail
                  go_quiet (fail)
                  go_wp2_with fail
                  go_roundw
                  case rel => exact ⟨j + 1, by omega, by go_num, (range_any_next Hd2.out).trans (Hnd.out.trans (by simpa using Hne.out)), below_drewN Hb2.out _⟩
                  case measure => simp [intOf]; omega
            · obtain rfl : j = i := by omega
              go_wp2
              go_roundw
              case rel => exact ⟨j + 1, by omega, by go_num, (Hgood.out true (by unfold fldGood; rw [Hok.out, Q0.out, Q1.out, Hd2.out]; rfl)).1 rfl, below_chain Hb.out Hb2.out⟩
              case measure => simp [intOf]; omega
      · obtain rfl : i = n := by omega
        go_wp2_with ((with_reducible refine (rwithin_any _ _ _ _).mono ?_); rintro e w2 ⟨he, hb⟩; subst he)
        go_ret
        exact ⟨by unfold fieldsB; rw [Ho.out]; rfl, below_chain Hbw.out hb⟩

end Go.Proofs.YthommhfppeonpaaGreatDoor

namespace Go.Proofs.YthommhfppeonpaaGreatDoor
open Go.RowKit

set_option maxRecDepth 100000 in
set_option maxHeartbeats 3200000 in
theorem rwaves_any (x : LensD) (f v s k : Ptr) (w : World) (hf : IR w.heap.size w 2 v.a v.n v.c x.ws) (hn : v.n ≤ 1000000) :
    Calls Tryz.prog 87 #[lensV' x f v s k] w (RetB w (.bool (wavesB x.prim x.ws v.n))) := by
  have Hf := Lib.hid hf; clear hf
  obtain ⟨va, n, vc⟩ := v
  simp only at *
  show Calls _ _ _ w (RetB w (.bool (wavesB x.prim x.ws n)))
  have hg0 : BenchB (w.alloc (.cells (cells9 x f ⟨va, n, vc⟩ s k).toArray 48)) w.heap.size 48 x f ⟨va, n, vc⟩ s k := heap_alloc_new w _
  have hb0 := (Below.refl w.heap.size w).alloc (Nat.le_refl _) (.cells (cells9 x f ⟨va, n, vc⟩ s k).toArray 48)
  have Hg0 := Lib.hid hg0; have Hb0 := Lib.hid hb0; clear hg0 hb0
  unfold lensV'
  go_enter Tryz.func87, Tryz.ntmps87
  go_upto_region 1 with fail
  refine step_world (fun wx => BenchB wx w.heap.size 48 x f ⟨va, n, vc⟩ s k ∧ Below w.heap.size w wx) ⟨Hg0.out, Hb0.out⟩ ?_
  clear Hg0 Hb0
  rintro w1 ⟨hg, hb⟩
  have hl := hg.lt
  obtain ⟨_, _, _, _, _, _, c6, _⟩ := hg.cells
  have Hg := Lib.hid hg; have Hb1 := Lib.hid hb; clear hg hb
  go_wp2_with fail
  go_loopw [3] (fun iv wr => ∃ i : Nat, i ≤ n ∧ iv = .int .i64 (i : Int) ∧ 299999 ≤ wavPrev x.ws i ∧ (List.range i).all (wavGood x.ws) = true ∧ Below w1.heap.size w1 wr) (fun iv _ => n - (intOf iv).toNat)
  case atStart => exact ⟨0, by omega, rfl, by simp [wavPrev], rfl, Below.refl _ _⟩
  case round =>
    obtain ⟨i, hi, rfl, hpv, ho, hb⟩ := hrel
    have Ho := Lib.hid ho; have Hb := Lib.hid hb; have Hbw := Lib.hid (below_chain Hb1.out hb)
    clear ho hb c6
    obtain ⟨_, _, _, _, c4, _, c6, _⟩ := (Hg.out.go Hb.out).cells
    have hgl : w.heap.size < wr.heap.size := Nat.lt_of_lt_of_le hl Hb.out.size
    by_cases hin : i < n
    · have hf2 := Hf.out.go Hbw.out
      obtain ⟨b1, off, rfl, hlt, x0, x1⟩ := hf2.at2 hin
      have Hf2 := Lib.hid hf2; clear hf2
      have hgood : ∀ b, wavGood x.ws i = b → (b = true → (List.range (i + 1)).all (wavGood x.ws) = true) ∧ (b = false → wavesB x.prim x.ws n = false) := by
        intro b hb
        refine ⟨fun e => range_all_next Ho.out (hb.trans e), fun e => ?_⟩
        unfold wavesB
        rw [range_all_bad hin (hb.trans e)]; rfl
      have hdef : wavGood x.ws i = (decide (wavPrev x.ws i < x.ws.getD (i * 2) 0) && decide (x.ws.getD (i * 2) 0 ≤ 2500000) && bt (x.ws.getD (i * 2 + 1) 0) 1 100) := rfl
      have hnext : wavPrev x.ws (i + 1) = x.ws.getD (i * 2) 0 := by unfold wavPrev; rw [if_neg (by omega), Nat.add_sub_cancel]
      have hprev : wavPrev x.ws i = if i = 0 then 299999 else x.ws.getD ((i - 1) * 2) 0 := rfl
      generalize wavPrev x.ws i = pr at *
      generalize hp0 : x.ws.getD (i * 2) 0 = p0 at *
      generalize hp1 : x.ws.getD (i * 2 + 1) 0 = p1 at *
      have Hgood := Lib.hid hgood; have Hdef := Lib.hid hdef; have Hnext := Lib.hid hnext; have Hprev := Lib.hid hprev; have Hpv := Lib.hid hpv; have C6 := Lib.hid c6
      clear hgood hdef hnext hp0 hp1 hprev hpv c4
      have hnb := heap_alloc_new wr (.cells #[.int .i64 p0, .int .i64 p1] 86)
      have Hnb := Lib.hid hnb; clear hnb
      go_upto_region 5 with fail
      refine step_world (fun wx => wx.heap[wr.heap.size]? = some (.cells #[.int .i64 p0, .int .i64 p1] 86 (0, 0)) ∧ Below wr.heap.size wr wx) ⟨Hnb.out, below_al (Below.refl _ _)⟩ ?_
      clear Hnb x0 x1 c6
      rintro w2 ⟨hnb, hb2⟩
      have hlw := lt_of_block hnb
      have hgl2 : w.heap.size < w2.heap.size := Nat.lt_of_lt_of_le hgl hb2.size
      have y0 := (obj_cell hnb 0).trans rfl; have y1 := (obj_cell hnb 1).trans rfl
      have Hnb := Lib.hid hnb; have Hb2 := Lib.hid hb2; clear hnb hb2
      cases hq0 : bt p0 300000 2500000
      · have Q0 := Lib.hid hq0
        have hbad : wavGood x.ws i = false := by
          rw [Hdef.out]
          have := Hpv.out
          simp only [bt, Bool.and_eq_false_iff, decide_eq_false_iff_not] at hq0 ⊢
          omega
        have Hbad := Lib.hid hbad; clear hq0 hbad
        refine wp_region_floats 26 [] [] [(0, true), (1, true), (2, false), (3, true), (4, true), (5, true), (6, true), (7, true), (8, true), (9, true), (10, true), (11, true), (12, true), (13, true), (14, true), (15, true), (16, true), (17, true), (18, true), (19, true), (20, true), (21, true), (22, true), (23, true), (24, true), (25, true)] (by kernel_rfl) (by kernel_rfl) ⟨by simp, by simp, fun _ h => by cases h⟩ (fun _ _ _ _ _ h => h) (fun _ _ o _ _ h => by cases o <;> exact h) ?_
        iterate 2
          refine wpG_yield (v := ?_) rfl rfl (by rfl) ?_ ?_
          rotate_left
          · intro y hy
            have z0 := (hy.cell (p := ⟨wr.heap.size, 0, none⟩) hlw).trans y0
            go_simp
            with_reducible rfl
          try simp only [Act.put, List.setIfInBounds_toArray, List.set_cons_zero, List.set_cons_succ]
        refine wpG_step rfl rfl (fun x1 hx1 K hK => ?_)
        go_simp
        refine (rwithin_any p0 _ _ _).mono ?_
        rintro e w3 ⟨he, hb3⟩
        rw [Q0.out] at he; subst he
        refine hK _ _ hb3 ?_
        clear hK K
        have hx1' : Below w2.heap.size w2 x1 := below_undrew (k := 1) hx1
        have Hb3 := Lib.hid (below_chain hx1' hb3); clear hb3 hx1 hx1'
        iterate 2
          refine wpG_pure (v := ?_) rfl (by rfl) ?_ ?_
          rotate_left
          · intro y
            go_simp
            with_reducible rfl
          try simp only [Act.put, List.setIfInBounds_toArray, List.set_cons_zero, List.set_cons_succ]
        iterate 4
          refine wpG_skip rfl (by rfl) ?_
          try simp only [Act.put, List.setIfInBounds_toArray, List.set_cons_zero, List.set_cons_succ]
        iterate 2
          refine wpG_pure (v := ?_) rfl (by rfl) ?_ ?_
          rotate_left
          · intro y
            go_simp
            with_reducible rfl
          try simp only [Act.put, List.setIfInBounds_toArray, List.set_cons_zero, List.set_cons_succ]
        iterate 14
          refine wpG_skip rfl (by rfl) ?_
          try simp only [Act.put, List.setIfInBounds_toArray, List.set_cons_zero, List.set_cons_succ]
        iterate 1
          refine wpG_pure (v := ?_) rfl (by rfl) ?_ ?_
          rotate_left
          · intro y
            go_simp
            with_reducible rfl
          try simp only [Act.put, List.setIfInBounds_toArray, List.set_cons_zero, List.set_cons_succ]
        refine wpG_nil0 (l := []) rfl (fun w5 hb5 => ?_)
        have Hb5 := Lib.hid (below_chain Hb3.out hb5); clear hb5
        go_wp2
        go_ret
        exact ⟨by rw [(Hgood.out false Hbad.out).2 rfl]; rfl, below_chain Hbw.out (below_chain Hb2.out Hb5.out)⟩
      · have hr0 : 300000 ≤ p0 ∧ p0 ≤ 2500000 := by simpa [bt] using hq0
        have Q0 := Lib.hid hq0; have R0 := Lib.hid hr0; clear hq0 hr0
        cases hq1 : bt p1 1 100
        · have Q1 := Lib.hid hq1
          have hbad : wavGood x.ws i = false := by rw [Hdef.out, hq1]; simp
          have Hbad := Lib.hid hbad; clear hq1 hbad
          refine wp_region_floats 26 [] [] [(0, true), (1, true), (2, false), (3, true), (4, true), (5, true), (6, true), (7, false), (8, true), (9, true), (10, true), (11, true), (12, true), (13, true), (14, true), (15, true), (16, true), (17, true), (18, true), (19, true), (20, true), (21, true), (22, true), (23, true), (24, true), (25, true)] (by kernel_rfl) (by kernel_rfl) ⟨by simp, by simp, fun _ h => by cases h⟩ (fun _ _ _ _ _ h => h) (fun _ _ o _ _ h => by cases o <;> exact h) ?_
          iterate 2
            refine wpG_yield (v := ?_) rfl rfl (by rfl) ?_ ?_
            rotate_left
            · intro y hy
              have z0 := (hy.cell (p := ⟨wr.heap.size, 0, none⟩) hlw).trans y0
              go_simp
              with_reducible rfl
            try simp only [Act.put, List.setIfInBounds_toArray, List.set_cons_zero, List.set_cons_succ]
          refine wpG_step rfl rfl (fun x1 hx1 K hK => ?_)
          go_simp
          refine (rwithin_any p0 _ _ _).mono ?_
          rintro e w3 ⟨he, hb3⟩
          rw [Q0.out] at he; subst he
          refine hK _ _ hb3 ?_
          clear hK K
          have hx1' : Below w2.heap.size w2 x1 := below_undrew (k := 1) hx1
          have hbx := below_chain hx1' hb3
          have k0 := (hbx.cell (p := ⟨wr.heap.size, 0, none⟩) hlw).trans y0
          have k1 := (hbx.cell (p := ⟨wr.heap.size, 1, none⟩) hlw).trans y1
          have hlw3 : wr.heap.size < w3.heap.size := Nat.lt_of_lt_of_le hlw hbx.size
          have Hb3 := Lib.hid hbx; clear hb3 hx1 hx1' hbx y0 y1
          iterate 2
            refine wpG_pure (v := ?_) rfl (by rfl) ?_ ?_
            rotate_left
            · intro y
              go_simp
              with_reducible rfl
            try simp only [Act.put, List.setIfInBounds_toArray, List.set_cons_zero, List.set_cons_succ]
          iterate 2
            refine wpG_yield (v := ?_) rfl rfl (by rfl) ?_ ?_
            rotate_left
            · intro y hy
              have z1 := (hy.cell (p := ⟨wr.heap.size, 1, none⟩) hlw3).trans k1
              go_simp
              with_reducible rfl
            try simp only [Act.put, List.setIfInBounds_toArray, List.set_cons_zero, List.set_cons_succ]
          refine wpG_stepw rfl (by rfl) (fun x2 hx2 K hK => ?_)
          go_simp
          refine (rwithin_any p1 _ _ _).mono ?_
          rintro e w4 ⟨he, hb4⟩
          rw [Q1.out] at he; subst he
          refine hK _ _ hb4 ?_
          clear hK K
          have hx2' : Below w3.heap.size w3 x2 := hx2
          have hbx := below_chain hx2' hb4
          have m0 := (hbx.cell (p := ⟨wr.heap.size, 0, none⟩) hlw3).trans k0
          have hlw4 : wr.heap.size < w4.heap.size := Nat.lt_of_lt_of_le hlw3 hbx.size
          have Hb4 := Lib.hid (below_chain Hb3.out hbx); clear hb4 hx2 hx2' hbx k0 k1
          iterate 3
            refine wpG_pure (v := ?_) rfl (by rfl) ?_ ?_
            rotate_left
            · intro y
              go_simp
              with_reducible rfl
            try simp only [Act.put, List.setIfInBounds_toArray, List.set_cons_zero, List.set_cons_succ]
          iterate 14
            refine wpG_skip rfl (by rfl) ?_
            try simp only [Act.put, List.setIfInBounds_toArray, List.set_cons_zero, List.set_cons_succ]
          iterate 1
            refine wpG_pure (v := ?_) rfl (by rfl) ?_ ?_
            rotate_left
            · intro y
              go_simp
              with_reducible rfl
            try simp only [Act.put, List.setIfInBounds_toArray, List.set_cons_zero, List.set_cons_succ]
          refine wpG_nil0 (l := []) rfl (fun w5 hb5 => ?_)
          have Hb5 := Lib.hid (below_chain Hb4.out hb5); clear hb5
          go_wp2
          go_ret
          exact ⟨by rw [(Hgood.out false Hbad.out).2 rfl]; rfl, below_chain Hbw.out (below_chain Hb2.out Hb5.out)⟩
        · skip
          have Q1 := Lib.hid hq1; clear hq1
          by_cases hi0 : i = 0
          · subst hi0
            have hok : wavGood x.ws 0 = true := by
              rw [Hdef.out, Hprev.out, if_pos rfl, Q1.out]
              have := R0.out
              simp; omega
            have Hok := Lib.hid hok; clear hok
            refine wp_region_floats 26 [] [] [(0, true), (1, true), (2, false), (3, true), (4, true), (5, true), (6, true), (7, false), (8, true), (9, true), (10, true), (11, true), (12, true), (13, true), (14, true), (15, true), (16, true), (17, true), (18, true), (19, true), (20, true), (21, true), (22, true), (23, true), (24, true), (25, true)] (by kernel_rfl) (by kernel_rfl) ⟨by simp, by simp, fun _ h => by cases h⟩ (fun _ _ _ _ _ h => h) (fun _ _ o _ _ h => by cases o <;> exact h) ?_
            iterate 2
              refine wpG_yield (v := ?_) rfl rfl (by rfl) ?_ ?_
              rotate_left
              · intro y hy
                have z0 := (hy.cell (p := ⟨wr.heap.size, 0, none⟩) hlw).trans y0
                go_simp
                with_reducible rfl
              try simp only [Act.put, List.setIfInBounds_toArray, List.set_cons_zero, List.set_cons_succ]
            refine wpG_step rfl rfl (fun x1 hx1 K hK => ?_)
            go_simp
            refine (rwithin_any p0 _ _ _).mono ?_
            rintro e w3 ⟨he, hb3⟩
            rw [Q0.out] at he; subst he
            refine hK _ _ hb3 ?_
            clear hK K
            have hx1' : Below w2.heap.size w2 x1 := below_undrew (k := 1) hx1
            have hbx := below_chain hx1' hb3
            have k0 := (hbx.cell (p := ⟨wr.heap.size, 0, none⟩) hlw).trans y0
            have k1 := (hbx.cell (p := ⟨wr.heap.size, 1, none⟩) hlw).trans y1
            have hlw3 : wr.heap.size < w3.heap.size := Nat.lt_of_lt_of_le hlw hbx.size
            have Hb3 := Lib.hid hbx; clear hb3 hx1 hx1' hbx y0 y1
            iterate 2
              refine wpG_pure (v := ?_) rfl (by rfl) ?_ ?_
              rotate_left
              · intro y
                go_simp
                with_reducible rfl
              try simp only [Act.put, List.setIfInBounds_toArray, List.set_cons_zero, List.set_cons_succ]
            iterate 2
              refine wpG_yield (v := ?_) rfl rfl (by rfl) ?_ ?_
              rotate_left
              · intro y hy
                have z1 := (hy.cell (p := ⟨wr.heap.size, 1, none⟩) hlw3).trans k1
                go_simp
                with_reducible rfl
              try simp only [Act.put, List.setIfInBounds_toArray, List.set_cons_zero, List.set_cons_succ]
            refine wpG_stepw rfl (by rfl) (fun x2 hx2 K hK => ?_)
            go_simp
            refine (rwithin_any p1 _ _ _).mono ?_
            rintro e w4 ⟨he, hb4⟩
            rw [Q1.out] at he; subst he
            refine hK _ _ hb4 ?_
            clear hK K
            have hx2' : Below w3.heap.size w3 x2 := hx2
            have hbx := below_chain hx2' hb4
            have m0 := (hbx.cell (p := ⟨wr.heap.size, 0, none⟩) hlw3).trans k0
            have hlw4 : wr.heap.size < w4.heap.size := Nat.lt_of_lt_of_le hlw3 hbx.size
            have Hb4 := Lib.hid (below_chain Hb3.out hbx); clear hb4 hx2 hx2' hbx k0 k1
            iterate 6
              refine wpG_pure (v := ?_) rfl (by rfl) ?_ ?_
              rotate_left
              · intro y
                go_simp
                with_reducible rfl
              try simp only [Act.put, List.setIfInBounds_toArray, List.set_cons_zero, List.set_cons_succ]
            iterate 10
              refine wpG_skip rfl (by rfl) ?_
              try simp only [Act.put, List.setIfInBounds_toArray, List.set_cons_zero, List.set_cons_succ]
            iterate 2
              refine wpG_pure (v := ?_) rfl (by rfl) ?_ ?_
              rotate_left
              · intro y
                go_simp
                with_reducible rfl
              try simp only [Act.put, List.setIfInBounds_toArray, List.set_cons_zero, List.set_cons_succ]
            refine wpG_nil0 (l := []) rfl (fun w5 hb5 => ?_)
            have Hb5 := Lib.hid (below_chain Hb4.out hb5); clear hb5
            go_wp2
            go_roundw
            case rel => exact ⟨1, by omega, by go_num, by rw [Hnext.out]; have := R0.out; omega, (Hgood.out true Hok.out).1 rfl, below_chain Hb.out (below_chain Hb2.out Hb5.out)⟩
            case measure => simp [intOf]; omega
          · have hpos : 0 < i := by omega
            have hwrap : IntKind.i64.wrap ((i : Int) - 1) = ((i - 1 : Nat) : Int) := by rw [IntWalk.i64_in _ (by omega)]; omega
            have him : i - 1 < n := by omega
            rw [if_neg hi0] at Hprev
            have hpr := Hprev.out
            obtain ⟨b2, o2, e2, hlt2, z0, -⟩ := (Hf2.out).at2 (k := i - 1) him
            cases e2
            rw [← hpr] at z0
            have Z0 := Lib.hid z0
            clear hpr z0 Hprev
            by_cases hlp : pr < p0
            all_goals
              have Hlp := Lib.hid hlp
              refine wp_region_floats 26 [] [] [(0, true), (1, true), (2, false), (3, true), (4, true), (5, true), (6, true), (7, false), (8, true), (9, true), (10, true), (11, true), (12, true), (13, true), (14, true), (15, true), (16, true), (17, true), (18, true), (19, true), (20, true), (21, true), (22, true), (23, true), (24, true), (25, true)] (by kernel_rfl) (by kernel_rfl) ⟨by simp, by simp, fun _ h => by cases h⟩ (fun _ _ _ _ _ h => h) (fun _ _ o _ _ h => by cases o <;> exact h) ?_
              iterate 2
                refine wpG_yield (v := ?_) rfl rfl (by rfl) ?_ ?_
                rotate_left
                · intro y hy
                  have z0 := (hy.cell (p := ⟨wr.heap.size, 0, none⟩) hlw).trans y0
                  go_simp
                  with_reducible rfl
                try simp only [Act.put, List.setIfInBounds_toArray, List.set_cons_zero, List.set_cons_succ]
              refine wpG_step rfl rfl (fun x1 hx1 K hK => ?_)
              go_simp
              refine (rwithin_any p0 _ _ _).mono ?_
              rintro e w3 ⟨he, hb3⟩
              rw [Q0.out] at he; subst he
              refine hK _ _ hb3 ?_
              clear hK K
              have hx1' : Below w2.heap.size w2 x1 := below_undrew (k := 1) hx1
              have hbx := below_chain hx1' hb3
              have k0 := (hbx.cell (p := ⟨wr.heap.size, 0, none⟩) hlw).trans y0
              have k1 := (hbx.cell (p := ⟨wr.heap.size, 1, none⟩) hlw).trans y1
              have hlw3 : wr.heap.size < w3.heap.size := Nat.lt_of_lt_of_le hlw hbx.size
              have Hb3 := Lib.hid hbx; clear hb3 hx1 hx1' hbx y0 y1
              iterate 2
                refine wpG_pure (v := ?_) rfl (by rfl) ?_ ?_
                rotate_left
                · intro y
                  go_simp
                  with_reducible rfl
                try simp only [Act.put, List.setIfInBounds_toArray, List.set_cons_zero, List.set_cons_succ]
              iterate 2
                refine wpG_yield (v := ?_) rfl rfl (by rfl) ?_ ?_
                rotate_left
                · intro y hy
                  have z1 := (hy.cell (p := ⟨wr.heap.size, 1, none⟩) hlw3).trans k1
                  go_simp
                  with_reducible rfl
                try simp only [Act.put, List.setIfInBounds_toArray, List.set_cons_zero, List.set_cons_succ]
              refine wpG_stepw rfl (by rfl) (fun x2 hx2 K hK => ?_)
              go_simp
              refine (rwithin_any p1 _ _ _).mono ?_
              rintro e w4 ⟨he, hb4⟩
              rw [Q1.out] at he; subst he
              refine hK _ _ hb4 ?_
              clear hK K
              have hx2' : Below w3.heap.size w3 x2 := hx2
              have hbx := below_chain hx2' hb4
              have m0 := (hbx.cell (p := ⟨wr.heap.size, 0, none⟩) hlw3).trans k0
              have hlw4 : wr.heap.size < w4.heap.size := Nat.lt_of_lt_of_le hlw3 hbx.size
              have Hb4 := Lib.hid (below_chain Hb3.out hbx); clear hb4 hx2 hx2' hbx k0 k1
              have j6 := ((below_chain Hb2.out Hb4.out).cell (p := ⟨w.heap.size, 6, none⟩) hgl).trans C6.out
              have j0 := ((below_chain Hb2.out Hb4.out).cell (p := ⟨b1, off + (i - 1) * 2, none⟩) hlt).trans Z0.out
              have hgl4 : w.heap.size < w4.heap.size := Nat.lt_of_lt_of_le hgl2 Hb4.out.size
              have hlt4 : b1 < w4.heap.size := Nat.lt_of_lt_of_le hlt (below_chain Hb2.out Hb4.out).size
              iterate 6
                refine wpG_pure (v := ?_) rfl (by rfl) ?_ ?_
                rotate_left
                · intro y
                  go_simp
                  with_reducible rfl
                try simp only [Act.put, List.setIfInBounds_toArray, List.set_cons_zero, List.set_cons_succ]
              iterate 9
                refine wpG_yield (v := ?_) rfl rfl (by rfl) ?_ ?_
                rotate_left
                · intro y hy
                  have q6 := (hy.cell (p := ⟨w.heap.size, 6, none⟩) hgl4).trans j6
                  have q0 := (hy.cell (p := ⟨b1, off + (i - 1) * 2, none⟩) hlt4).trans j0
                  have qm := (hy.cell (p := ⟨wr.heap.size, 0, none⟩) hlw4).trans m0
                  go_simp
                  with_reducible rfl
                try simp only [Act.put, List.setIfInBounds_toArray, List.set_cons_zero, List.set_cons_succ]
              iterate 3
                refine wpG_pure (v := ?_) rfl (by rfl) ?_ ?_
                rotate_left
                · intro y
                  go_simp
                  with_reducible rfl
                try simp only [Act.put, List.setIfInBounds_toArray, List.set_cons_zero, List.set_cons_succ]
              refine wpG_nil0 (l := []) rfl (fun w5 hb5 => ?_)
              have Hb5 := Lib.hid (below_chain Hb4.out hb5); clear hb5
            · have hok : wavGood x.ws i = true := by
                rw [Hdef.out, Q1.out]
                have := R0.out; have := Hlp.out
                simp; omega
              have Hok := Lib.hid hok; clear hok
              go_wp2
              go_roundw
              case rel => exact ⟨i + 1, by omega, by go_num, by rw [Hnext.out]; have := R0.out; omega, (Hgood.out true Hok.out).1 rfl, below_chain Hb.out (below_chain Hb2.out Hb5.out)⟩
              case measure => simp [intOf]; omega
            · have hbad : wavGood x.ws i = false := by
                rw [Hdef.out]
                have := Hlp.out
                simp; omega
              have Hbad := Lib.hid hbad; clear hbad
              go_wp2
              go_ret
              exact ⟨by rw [(Hgood.out false Hbad.out).2 rfl]; rfl, below_chain Hbw.out (below_chain Hb2.out Hb5.out)⟩
    · obtain rfl : i = n := by omega
      have hwrap : IntKind.i64.wrap ((i : Int) - 1) = (i : Int) - 1 := IntWalk.i64_in _ (by omega)
      cases h1 : bt (i : Int) 1 5
      all_goals
        have H1 := Lib.hid h1; clear h1
        go_wp2_with (first
          | ((with_reducible refine (rwithin_any (i : Int) 1 5 _).mono ?_); rintro e w2 ⟨he, hb⟩; rw [H1.out] at he; subst he; replace c4 := (hb.cell (p := ⟨w.heap.size, 4, none⟩) hgl).trans c4; replace c6 := (hb.cell (p := ⟨w.heap.size, 6, none⟩) hgl).trans c6; have Hb2 := Lib.hid hb; clear hb)
          | ((with_reducible refine (rwithin_any x.prim 0 ((i : Int) - 1) _).mono ?_); rintro e w4 ⟨he, hb⟩; subst he; have Hb3 := Lib.hid hb; clear hb))
        go_ret
        refine ⟨by unfold wavesB; rw [Ho.out, H1.out]; rfl, ?_⟩
        first
          | exact below_chain Hbw.out (below_chain Hb2.out Hb3.out)
          | exact below_chain Hbw.out Hb2.out

end Go.Proofs.YthommhfppeonpaaGreatDoor

namespace Go.Proofs.YthommhfppeonpaaGreatDoor
open Go.RowKit

set_option maxRecDepth 100000 in
set_option maxHeartbeats 3200000 in
theorem rsurfaces_any (x : LensD) (f v s k : Ptr) (w : World) (hf : RR SurfR 22 (fun b => b < w.heap.size) w s.a s.n s.c x.l) (hn : s.n ≤ 1000000) :
    Calls Tryz.prog 88 #[lensV' x f v s k] w (RetB w (.bool (surfacesB x.stop x.l))) := by
  have Hf := Lib.hid hf
  have hlen := hf.1; clear hf
  obtain ⟨sa, n, sc⟩ := s
  simp only at *
  have hg0 : BenchB (w.alloc (.cells (cells9 x f v ⟨sa, n, sc⟩ k).toArray 48)) w.heap.size 48 x f v ⟨sa, n, sc⟩ k := heap_alloc_new w _
  have hb0 := (Below.refl w.heap.size w).alloc (Nat.le_refl _) (.cells (cells9 x f v ⟨sa, n, sc⟩ k).toArray 48)
  have Hg0 := Lib.hid hg0; have Hb0 := Lib.hid hb0; clear hg0 hb0
  have hdef : surfacesB x.stop x.l = (bt (n : Int) 2 16 && bt x.stop 0 ((n : Int) - 2) && !badB x.l && lastImg x.l && (kindAt x.l x.stop != 3)) := by unfold surfacesB; rw [hlen]
  have Hdef := Lib.hid hdef; clear hdef
  have hwr : IntKind.i64.wrap ((n : Int) - 2) = (n : Int) - 2 := IntWalk.i64_in _ (by omega)
  unfold lensV'
  go_enter Tryz.func88, Tryz.ntmps88
  go_upto_region 1 with fail
  refine step_world (fun wx => BenchB wx w.heap.size 48 x f v ⟨sa, n, sc⟩ k ∧ Below w.heap.size w wx) ⟨Hg0.out, Hb0.out⟩ ?_
  clear Hg0 Hb0
  rintro w1 ⟨hg, hb⟩
  have hl := hg.lt
  obtain ⟨_, _, _, c3, _, _, _, c7, _⟩ := hg.cells
  have Hg := Lib.hid hg; have Hb1 := Lib.hid hb; clear hg hb
  go_upto_region 2 with fail
  cases h1 : bt (n : Int) 2 16 with
  | false =>
    have H1 := Lib.hid h1; clear h1
    go_wp2_with ((with_reducible refine (rwithin_any (n : Int) 2 16 _).mono ?_); rintro e w2 ⟨he, hb⟩; rw [H1.out] at he; subst he; have Hb := Lib.hid hb; clear hb)
    go_ret
    exact ⟨by rw [Hdef.out, H1.out]; rfl, below_chain Hb1.out Hb.out⟩
  | true =>
    have hn2 : 2 ≤ (n : Int) ∧ (n : Int) ≤ 16 := by simpa [bt] using h1
    have H1 := Lib.hid h1; clear h1
    cases h2 : bt x.stop 0 ((n : Int) - 2) with
    | false =>
      have H2 := Lib.hid h2; clear h2
      go_wp2_with (first
        | ((with_reducible refine (rwithin_any (n : Int) 2 16 _).mono ?_); rintro e w2 ⟨he, hb⟩; rw [H1.out] at he; subst he; replace c3 := (hb.cell (p := ⟨w.heap.size, 3, none⟩) hl).trans c3; have Hb := Lib.hid hb; clear hb)
        | ((with_reducible refine (rwithin_any x.stop 0 ((n : Int) - 2) _).mono ?_); rintro e w3 ⟨he, hb⟩; rw [H2.out] at he; subst he; have Hb2 := Lib.hid hb; clear hb))
      go_ret
      exact ⟨by rw [Hdef.out, H1.out, H2.out]; rfl, below_chain Hb1.out (below_chain Hb.out Hb2.out)⟩
    | true =>
      have hst : 0 ≤ x.stop ∧ x.stop ≤ (n : Int) - 2 := by simpa [bt] using h2
      have H2 := Lib.hid h2; clear h2
      obtain ⟨m, hm⟩ : ∃ m, n = m + 1 := ⟨n - 1, by omega⟩
      obtain ⟨j, hj⟩ : ∃ j : Nat, x.stop = (j : Int) := ⟨x.stop.toNat, by omega⟩
      have hmn : m < n := by omega
      have hjn : j < n := by omega
      have hwm : IntKind.i64.wrap ((n : Int) - 1) = (m : Int) := (IntWalk.i64_in _ (by omega)).trans (by omega)
      have Hm := Lib.hid hm; have Hj := Lib.hid hj; have Hst := Lib.hid hst
      clear hm hj hst
      have Hf1 := Lib.hid (Hf.out.go surfOk Hb1.out)
      obtain ⟨b1, off, y, cs, rfl, hlt, hy, ⟨a2, n2, c2, rfl, hz, hn2', hc2, hg2⟩, hr⟩ := Hf1.out.at hmn
      obtain ⟨b1', off', z, cs', e', _, hz', ⟨a3, n3, c3', rfl, hzz, _, _, _⟩, hr'⟩ := Hf1.out.at hjn
      cases e'
      have hlast : lastImg x.l = imageB y.s n2 := by unfold lastImg; rw [hlen, show n - 1 = m by (have := Hm.out; omega), hy]; simp only; rw [← coat_n hz]
      have hkind : kindAt x.l x.stop = z.s.kind := by unfold kindAt; rw [Hj.out, Int.toNat_natCast, hz']
      have hbady : okC y = false → badB x.l = true := fun e => any_mem hy (by rw [e]; rfl)
      have Hlast := Lib.hid hlast; have Hkind := Lib.hid hkind; have Hr := Lib.hid hr; have Hz := Lib.hid (hz.ir (fun _ h => h)); have Hg2 := Lib.hid hg2; have Hbady := Lib.hid hbady
      have d0 : w1.cell? ⟨b1, off + j * 22, none⟩ = some (.int .i64 z.s.kind) := by have := hr' 0 _ rfl; rwa [Nat.add_zero] at this
      have D0 := Lib.hid d0; have C7 := Lib.hid c7
      clear hlast hkind hr hr' hz hzz hy hz' hc2 hg2 hbady d0 c7
      cases hk3 : (z.s.kind == 3)
      case true =>
        have hk : kindAt x.l x.stop = 3 := by rw [Hkind.out]; simpa using hk3
        have Hk := Lib.hid hk; clear hk
        go_wp2_with (first
          | ((with_reducible refine (rwithin_any (n : Int) 2 16 _).mono ?_); rintro e w2 ⟨he, hb⟩; rw [H1.out] at he; subst he; replace c3 := (hb.cell (p := ⟨w.heap.size, 3, none⟩) hl).trans c3; have Hb := Lib.hid hb; clear hb)
          | ((with_reducible refine (rwithin_any x.stop 0 ((n : Int) - 2) _).mono ?_); rintro e w3 ⟨he, hb⟩; rw [H2.out] at he; subst he; have hbb := below_chain Hb.out hb; have c7 := (hbb.cell (p := ⟨w.heap.size, 7, none⟩) hl).trans C7.out; have d0 := (hbb.cell (p := ⟨b1, off + j * 22, none⟩) hlt).trans D0.out; have c3 := ((Hg.out.go hbb).cells).2.2.2.1; rw [Hj.out] at c3; have Hb2 := Lib.hid hbb; clear hb hbb))
        go_ret
        exact ⟨by rw [Hdef.out, Hk.out]; simp, below_chain Hb1.out Hb2.out⟩
      case false =>
        have hk : (kindAt x.l x.stop != 3) = true := by rw [Hkind.out]; simpa using hk3
        have Hk := Lib.hid hk; clear hk
        cases him : (okC y && imageB y.s n2)
        case false =>
          have hno : surfacesB x.stop x.l = false := by
            rw [Hdef.out, Hlast.out]
            cases ho : okC y
            · rw [Hbady.out ho]; simp
            · rw [ho] at him; simp only [Bool.true_and] at him; rw [him]; simp
          have Hno := Lib.hid hno; have Him := Lib.hid him; clear hno him
          go_wp2_with (first
            | ((with_reducible refine (rwithin_any (n : Int) 2 16 _).mono ?_); rintro e w2 ⟨he, hb⟩; rw [H1.out] at he; subst he; replace c3 := (hb.cell (p := ⟨w.heap.size, 3, none⟩) hl).trans c3; have Hb := Lib.hid hb; clear hb)
            | ((with_reducible refine (rwithin_any x.stop 0 ((n : Int) - 2) _).mono ?_); rintro e w3 ⟨he, hb⟩; rw [H2.out] at he; subst he; have hbb := below_chain Hb.out hb; have c7 := (hbb.cell (p := ⟨w.heap.size, 7, none⟩) hl).trans C7.out; have d0 := (hbb.cell (p := ⟨b1, off + j * 22, none⟩) hlt).trans D0.out; have c3 := ((Hg.out.go hbb).cells).2.2.2.1; rw [Hj.out] at c3; have Hb2 := Lib.hid hbb; clear hb)
            | (refine wpL_load_atG (rangeAt_kept Hr.out (keptOn_below hbb) hlt) (by rfl) (.tmp 34) rfl rfl ?_)
            | ((with_reducible refine (rimage_any y a2 n2 c2 _ (Hz.out.go hbb) hn2' Hg2.out).mono ?_); rintro e w4 ⟨he, hb⟩; rw [Him.out] at he; subst he; have Hb3 := Lib.hid hb; clear hb))
          go_ret
          exact ⟨by rw [Hno.out]; rfl, below_chain Hb1.out (below_chain Hb2.out Hb3.out)⟩
        case true =>
          have hyes : badB x.l = false → surfacesB x.stop x.l = true := by
            intro hb
            rw [Bool.and_eq_true] at him
            rw [Hdef.out, Hlast.out, him.2, hb, Hk.out, H1.out, H2.out]; rfl
          have hno : badB x.l = true → surfacesB x.stop x.l = false := by
            intro hb
            rw [Hdef.out, hb]; simp
          have Hno := Lib.hid hno; have Hyes := Lib.hid hyes; have Him := Lib.hid him; clear hno hyes him
          go_wp2_with (first
            | ((with_reducible refine (rwithin_any (n : Int) 2 16 _).mono ?_); rintro e w2 ⟨he, hb⟩; rw [H1.out] at he; subst he; replace c3 := (hb.cell (p := ⟨w.heap.size, 3, none⟩) hl).trans c3; have Hb := Lib.hid hb; clear hb)
            | ((with_reducible refine (rwithin_any x.stop 0 ((n : Int) - 2) _).mono ?_); rintro e w3 ⟨he, hb⟩; rw [H2.out] at he; subst he; have hbb := below_chain Hb.out hb; have c7 := (hbb.cell (p := ⟨w.heap.size, 7, none⟩) hl).trans C7.out; have d0 := (hbb.cell (p := ⟨b1, off + j * 22, none⟩) hlt).trans D0.out; have c3 := ((Hg.out.go hbb).cells).2.2.2.1; rw [Hj.out] at c3; have Hb2 := Lib.hid hbb; clear hb)
            | (refine wpL_load_atG (rangeAt_kept Hr.out (keptOn_below hbb) hlt) (by rfl) (.tmp 34) rfl rfl ?_)
            | ((with_reducible refine (rimage_any y a2 n2 c2 _ (Hz.out.go hbb) hn2' Hg2.out).mono ?_); rintro e w4 ⟨he, hb⟩; rw [Him.out] at he; subst he; have Hb3 := Lib.hid (below_chain hbb hb); clear hb))
          clear c3 c7 d0 hbb
          go_loopw [4] (fun iv wr => ∃ i : Nat, i ≤ n ∧ iv = .int .i64 (i : Int) ∧ (x.l.take i).any (fun x => !okC x) = false ∧ Below w1.heap.size w1 wr) (fun iv _ => n - (intOf iv).toNat)
          case atStart => exact ⟨0, by omega, rfl, rfl, Hb3.out⟩
          case round =>
            obtain ⟨i, hi, rfl, ho, hb⟩ := hrel
            have Ho := Lib.hid ho; have Hb := Lib.hid hb; clear ho hb
            obtain ⟨_, _, _, _, _, _, _, c7, _⟩ := (Hg.out.go Hb.out).cells
            have hgl : w.heap.size < wr.heap.size := Nat.lt_of_lt_of_le hl Hb.out.size
            by_cases hin : i < n
            · obtain ⟨b4, o4, u, cs4, e4, hlt4, hu, ⟨a4, n4, c4, rfl, hz4, hn4, -, hg4⟩, hr4⟩ := (Hf1.out.go surfOk Hb.out).at hin
              cases e4
              have hok : okC u = okS u.s u.zs n4 := by unfold okC; rw [← coat_n hz4]
              have Hz4 := Lib.hid (hz4.ir (fun _ h => h)); have Hr4 := Lib.hid hr4
              clear hz4 hr4
              cases ho : okS u.s u.zs n4
              all_goals
                have HO := Lib.hid ho
                rw [ho] at hok
                have Hok := Lib.hid hok; have Hu := Lib.hid hu
                clear ho hok hu
                go_wp2_with (first
                  | (refine wpL_load_at Hr4.out rfl (.tmp 47) rfl rfl ?_)
                  | ((with_reducible refine (right_ok u.s u.zs a4 n4 c4 _ Hz4.out hn4 hg4).mono ?_); rintro e w5 ⟨he, hb⟩; rw [HO.out] at he; subst he; have Hb5 := Lib.hid hb; clear hb))
              · go_ret
                refine ⟨?_, below_chain Hb1.out (below_chain Hb.out Hb5.out)⟩
                rw [Hno.out (any_mem Hu.out (by rw [Hok.out]; rfl))]; rfl
              · go_roundw
                case rel => exact ⟨i + 1, by omega, by go_num, (any_takeS Hu.out Ho.out).trans (by rw [Hok.out]; rfl), below_chain Hb.out Hb5.out⟩
                case measure => simp [intOf]; omega
            · obtain rfl : i = n := by omega
              go_wp2
              go_ret
              refine ⟨?_, below_chain Hb1.out Hb.out⟩
              have := Ho.out
              rw [← hlen, List.take_length] at this
              rw [Hyes.out this]; rfl

end Go.Proofs.YthommhfppeonpaaGreatDoor

namespace Go.Proofs.YthommhfppeonpaaGreatDoor
open Go.RowKit

theorem okS_order {s : Surf} {zs : List Int} {n : Nat} (hz : zs.length = n * 3) (h : okS s zs n = true) (hk : s.kind ≠ 1) : s.order = 0 := by
  have h1 : tests s zs n = true := by unfold okS at h; simp only [Bool.and_eq_true] at h; exact h.1
  have h2 : test1 s zs = true := by rw [tests_eq] at h1; simp only [Bool.and_eq_true] at h1; exact h1.1
  rw [← kind_eq s zs n hz] at h2
  unfold kindB plainP at h2
  rw [if_neg hk] at h2
  repeat' split at h2
  all_goals simp at h2
  all_goals omega

set_option maxRecDepth 100000 in
set_option maxHeartbeats 3200000 in
theorem refHas_any (s : Surf) (zs : List Int) (p : Int) (a : Option Addr) (n c : Nat) (w : World) (hz : IR w.heap.size w 3 a n c zs) (hn : n ≤ 1000000) (hg : s.glass.size ≤ 9223372036854775807) :
    Calls Tryz.prog 90 #[.agg #[.int .i64 s.kind, .int .i64 s.curv, .int .i64 s.conic, .int .i64 s.curvX, .int .i64 s.conicX, .int .i64 s.a0, .int .i64 s.a1, .int .i64 s.a2, .int .i64 s.a3, .int .i64 s.p0, .int .i64 s.p1, .int .i64 s.order, .int .i64 s.thick, .string s.glass, .int .i64 s.semi, .int .i64 s.hole, .int .i64 s.dx, .int .i64 s.dy, .int .i64 s.ax, .int .i64 s.ay, .int .i64 s.az, .slice a n c], .int .i64 p] w (RetB w (.bool (hasC s zs n p))) := by
  have h1 := SurfB.new w s a n c
  have hb1 := (Below.refl w.heap.size w).alloc (Nat.le_refl _) (.cells #[.int .i64 s.kind, .int .i64 s.curv, .int .i64 s.conic, .int .i64 s.curvX, .int .i64 s.conicX, .int .i64 s.a0, .int .i64 s.a1, .int .i64 s.a2, .int .i64 s.a3, .int .i64 s.p0, .int .i64 s.p1, .int .i64 s.order, .int .i64 s.thick, .string s.glass, .int .i64 s.semi, .int .i64 s.hole, .int .i64 s.dx, .int .i64 s.dy, .int .i64 s.ax, .int .i64 s.ay, .int .i64 s.az, .slice a n c] 92)
  have H1 := Lib.hid h1; have Hz := Lib.hid (hz.go hb1); have Hb1 := Lib.hid hb1
  clear h1 hz hb1
  go_enter Tryz.func90, Tryz.ntmps90
  cases ho : okS s zs n with
  | false =>
    have Ho := Lib.hid ho; clear ho
    go_wp2_with (first
      | (refine wpL_load_surf H1.out rfl (.tmp 2) rfl rfl ?_)
      | ((with_reducible refine (right_ok s zs a n c _ Hz.out hn hg).mono ?_); rintro e w2 ⟨he, hb⟩; rw [Ho.out] at he; subst he))
    go_ret
    exact ⟨by unfold hasC; rw [Ho.out]; rfl, below_chain Hb1.out hb⟩
  | true =>
    obtain ⟨q1, q4⟩ := okS_kind ho
    have hord := okS_order Hz.out.1 ho
    have Hord := Lib.hid hord; clear hord
    have Ho := Lib.hid ho; clear ho
    go_upto_region 3 with (first
      | (refine wpL_load_surf H1.out rfl (.tmp 2) rfl rfl ?_)
      | ((with_reducible refine (right_ok s zs a n c _ Hz.out hn hg).mono ?_); rintro e w2 ⟨he, hb⟩; rw [Ho.out] at he; subst he))
    refine step_world (fun wx => SurfB wx w.heap.size s a n c ∧ Below w.heap.size w wx) ⟨SurfB.go H1.out hb (by simp), below_chain Hb1.out hb⟩ ?_
    clear hb H1 Hz Hb1 w2
    rintro w3 ⟨h1, hb⟩
    obtain ⟨k0, _, _, _, _, _, _, _, _, _, _, k11, _⟩ := h1.cells
    have Hb := Lib.hid hb; clear hb h1
    have hr : hasC s zs n p = hasB s p := by unfold hasC; rw [Ho.out]; rfl
    have Hr := Lib.hid hr; clear hr
    have hk : s.kind = 1 ∨ s.kind = 2 ∨ s.kind = 3 ∨ s.kind = 4 := by omega
    clear q1 q4
    rcases hk with hk | hk | hk | hk
    all_goals
      have ho' := Hord.out
      rw [hk] at ho'
      have Ho' := Lib.hid ho'
      have Hk := Lib.hid hk
      clear ho' 
      rw [hk] at k0
      clear hk
      go_wp2
      all_goals
        go_ret
        refine ⟨congrArg (fun b => Ending.returned (Value.bool b)) ?_, Hb.out⟩
        rw [Hr.out]
        unfold hasB placesOf
        rw [Hk.out]
        have ho' := Ho'.out
        clear Hr Hk Hb Ho k0 k11 Hord Ho'
        go_light
        simp at ho'
        rw [Bool.eq_iff_iff]
        (try simp)
        (try (split <;> (try simp_all)))
        all_goals (try omega)

end Go.Proofs.YthommhfppeonpaaGreatDoor

namespace Go.Proofs.YthommhfppeonpaaGreatDoor
open Go.RowKit

set_option maxRecDepth 100000 in
set_option maxHeartbeats 1600000 in
theorem rhas_any (l : List SurfC) (a : Option Addr) (n c : Nat) (i p : Int) (w : World) (h : RR SurfR 22 (fun b => b < w.heap.size) w a n c l) (hn : n ≤ 1000000) :
    Calls Tryz.prog 53 #[.slice a n c, .int .i64 i, .int .i64 p] w (RetB w (.bool (lhasB l i p))) := by
  have hlen := h.1
  have H := Lib.hid h; clear h
  have hL : lhasB l i p = (bt i 0 ((n : Int) - 1) && hasX l i.toNat p && ((p != 9) || decide (i < (n : Int) - 1))) := by unfold lhasB; rw [hlen]
  have HL := Lib.hid hL; clear hL
  go_enter Tryz.func53, Tryz.ntmps53
  cases hb0 : bt i 0 ((n : Int) - 1) with
  | false =>
    have Hb0 := Lib.hid hb0; clear hb0
    go_wp2_with ((with_reducible refine (rwithin_any _ _ _ _).mono ?_); rintro e w2 ⟨he, hb⟩; rw [Hb0.out] at he; subst he)
    go_ret
    exact ⟨by rw [HL.out, Hb0.out]; rfl, hb⟩
  | true =>
    have hi : 0 ≤ i ∧ i ≤ (n : Int) - 1 := by simpa [bt] using hb0
    obtain ⟨k, rfl⟩ : ∃ k : Nat, i = (k : Int) := ⟨i.toNat, by omega⟩
    have hkn : k < n := by omega
    have Hb0 := Lib.hid hb0; clear hb0 hi
    obtain ⟨b, off, x, cs, rfl, hlt, hx, ⟨a2, n2, c2, rfl, hz, hn2, hc2, hg2⟩, hr⟩ := H.out.at hkn
    have hX : hasX l (k : Int).toNat p = hasC x.s x.zs n2 p := by unfold hasX; rw [Int.toNat_natCast, hx]; simp only; rw [← coat_n hz]
    have HX := Lib.hid hX; have Hz := Lib.hid (hz.ir (fun _ h => h)); have Hr := Lib.hid hr; have Hg2 := Lib.hid hg2
    clear hX hx hz hc2 hr hg2
    cases hv : hasC x.s x.zs n2 p <;> cases h9 : (p != 9) <;> cases hlast : decide ((k : Int) < (n : Int) - 1)
    all_goals
      have Hv := Lib.hid hv; have H9 := Lib.hid h9; have Hla := Lib.hid hlast
      clear hv
      simp only [decide_eq_true_eq, decide_eq_false_iff_not] at hlast
      go_wp2_with (first
        | (refine wpL_load_atG (rangeAt_kept Hr.out (keptOn_below hb2) hlt) (by rfl) (.tmp 15) rfl rfl ?_)
        | ((with_reducible refine (rwithin_any _ _ _ _).mono ?_); rintro e w2 ⟨he, hb⟩; rw [Hb0.out] at he; subst he; have hb2 := hb; have Hb2 := Lib.hid hb)
        | ((with_reducible refine (refHas_any x.s x.zs p _ n2 c2 _ (Hz.out.go Hb2.out) hn2 Hg2.out).mono ?_); rintro e w3 ⟨he, hb3⟩; rw [Hv.out] at he; subst he; have Hb3 := Lib.hid hb3; clear hb3))
      go_ret
      exact ⟨by rw [HL.out, Hb0.out, HX.out, Hv.out, H9.out, Hla.out]; rfl, below_chain Hb2.out Hb3.out⟩

end Go.Proofs.YthommhfppeonpaaGreatDoor

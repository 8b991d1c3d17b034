/-
  DERIVED. The walks of the reference of surfaces: Set.
-/
import Derived.Test.YthommhfppeonpaaGreatDoorKad
namespace Go.Proofs.YthommhfppeonpaaGreatDoor
open Go.RowKit

set_option maxRecDepth 100000 in
set_option maxHeartbeats 6400000 in
theorem refSet_any (s : Surf) (zs : List Int) (p v : Int) (a : Option Addr) (n c : Nat) (w : World) (hz : IR w.heap.size w 3 a n c zs) (hn : n ≤ 1000000) (hc : a = none → c = 0) (hg : s.glass.size ≤ 9223372036854775807) :
    Calls Tryz.prog 114 #[.agg #[.int .i64 s.kind, .int .i64 s.curv, .int .i64 s.conic, .int .i64 s.curvX, .int .i64 s.conicX, .int .i64 s.a0, .int .i64 s.a1, .int .i64 s.a2, .int .i64 s.a3, .int .i64 s.p0, .int .i64 s.p1, .int .i64 s.order, .int .i64 s.thick, .string s.glass, .int .i64 s.semi, .int .i64 s.hole, .int .i64 s.dx, .int .i64 s.dy, .int .i64 s.ax, .int .i64 s.ay, .int .i64 s.az, .slice a n c], .int .i64 p, .int .i64 v] w (RetSet w s zs n p v) := by
  have h1 := SurfB.new w s a n c
  have h2 := heap_alloc_new (w.alloc (.cells #[.int .i64 s.kind, .int .i64 s.curv, .int .i64 s.conic, .int .i64 s.curvX, .int .i64 s.conicX, .int .i64 s.a0, .int .i64 s.a1, .int .i64 s.a2, .int .i64 s.a3, .int .i64 s.p0, .int .i64 s.p1, .int .i64 s.order, .int .i64 s.thick, .string s.glass, .int .i64 s.semi, .int .i64 s.hole, .int .i64 s.dx, .int .i64 s.dy, .int .i64 s.ax, .int .i64 s.ay, .int .i64 s.az, .slice a n c] 92)) (.cells #[.int .i64 0, .int .i64 0, .int .i64 0, .int .i64 0, .int .i64 0, .int .i64 0, .int .i64 0, .int .i64 0, .int .i64 0, .int .i64 0, .int .i64 0, .int .i64 0, .int .i64 0, .string emptyS, .int .i64 0, .int .i64 0, .int .i64 0, .int .i64 0, .int .i64 0, .int .i64 0, .int .i64 0, .slice none 0 0] 92)
  have hb := below_al (o := .cells #[.int .i64 0, .int .i64 0, .int .i64 0, .int .i64 0, .int .i64 0, .int .i64 0, .int .i64 0, .int .i64 0, .int .i64 0, .int .i64 0, .int .i64 0, .int .i64 0, .int .i64 0, .string emptyS, .int .i64 0, .int .i64 0, .int .i64 0, .int .i64 0, .int .i64 0, .int .i64 0, .int .i64 0, .slice none 0 0] 92) (below_al (o := .cells #[.int .i64 s.kind, .int .i64 s.curv, .int .i64 s.conic, .int .i64 s.curvX, .int .i64 s.conicX, .int .i64 s.a0, .int .i64 s.a1, .int .i64 s.a2, .int .i64 s.a3, .int .i64 s.p0, .int .i64 s.p1, .int .i64 s.order, .int .i64 s.thick, .string s.glass, .int .i64 s.semi, .int .i64 s.hole, .int .i64 s.dx, .int .i64 s.dy, .int .i64 s.ax, .int .i64 s.ay, .int .i64 s.az, .slice a n c] 92) (Below.refl w.heap.size w))
  rw [size_alloc] at h2
  have H1 := Lib.hid h1; have H2 := Lib.hid h2; have Hz := Lib.hid hz; have Hc := Lib.hid hc; have Hb := Lib.hid hb
  clear h1 h2 hz hc hb
  go_enter Tryz.func114, Tryz.ntmps114
  go_upto_region 1 with fail
  refine step_world (fun wx => SurfB wx w.heap.size s a n c ∧ wx.heap[w.heap.size + 1]? = some (.cells #[.int .i64 0, .int .i64 0, .int .i64 0, .int .i64 0, .int .i64 0, .int .i64 0, .int .i64 0, .int .i64 0, .int .i64 0, .int .i64 0, .int .i64 0, .int .i64 0, .int .i64 0, .string emptyS, .int .i64 0, .int .i64 0, .int .i64 0, .int .i64 0, .int .i64 0, .int .i64 0, .int .i64 0, .slice none 0 0] 92 (0, 0)) ∧ Below w.heap.size w wx) ⟨SurfB.go (B := w.heap.size + 1) H1.out ((Below.refl _ _).alloc (by simp) _) (by omega), H2.out, Hb.out⟩ ?_
  clear H1 H2 Hb
  rintro w1 ⟨h1, h2, hb⟩
  have hl1 := h1.lt; have hl2 := lt_of_block h2
  have H1 := Lib.hid h1; have H2 := Lib.hid h2; have Hb := Lib.hid hb
  clear h1 h2 hb
  cases ho : okS s zs n with
  | false =>
    have hm : missI s zs n p = 110 := by unfold missI; rw [if_neg (by rw [ho]; simp)]
    have hset : setI s zs n p v = 110 := by unfold setI; rw [hm]; rfl
    have Ho := Lib.hid ho; have Hset := Lib.hid hset; clear ho hm hset
    go_wp2_with (first
      | (refine wpL_load_surf H1.out rfl (.tmp 3) rfl rfl ?_)
      | ((with_reducible refine (right_ok s zs a n c _ (Hz.out.go Hb.out) hn hg).mono ?_); rintro e w2 ⟨he, hb⟩; rw [Ho.out] at he; subst he; have Hb2 := Lib.hid hb; clear hb)
      | (refine wpL_store_surf ⟨0, 0, 0, 0, 0, 0, 0, 0, 0, 0, 0, 0, 0, emptyS, 0, 0, 0, 0, 0, 0, 0⟩ none 0 0 ((Hb2.out.block _ hl2).trans H2.out) rfl rfl (.tmp 6) (.tmp 11) rfl rfl rfl ?_))
    refine bodyPost_ret (ret_surf_tmp (s := ⟨0, 0, 0, 0, 0, 0, 0, 0, 0, 0, 0, 0, 0, emptyS, 0, 0, 0, 0, 0, 0, 0⟩) (a := none) (n := 0) (c := 0) rfl rfl rfl (SurfB.stored ((Hb2.out.block _ hl2).trans H2.out) rfl _ _ _ _)) rfl ?_
    exact Or.inl ⟨by rw [Hset.out]; decide, by rw [Hset.out]; rfl, Below.put22 (below_chain Hb.out Hb2.out) (by omega) _ _ _ _⟩
  | true =>
    have hc' : hasC s zs n p = hasB s p := by unfold hasC; rw [ho]; rfl
    cases hh : hasB s p with
    | false =>
      have hm : missI s zs n p = 2 := by unfold missI; rw [if_pos ho, hh]; rfl
      have hset : setI s zs n p v = 2 := by unfold setI; rw [hm]; rfl
      rw [hh] at hc'
      have Ho := Lib.hid ho; have Hset := Lib.hid hset; have Hc' := Lib.hid hc'; clear ho hm hset hc' hh
      go_wp2_with (first
        | (refine wpL_load_surf H1.out rfl (.tmp 3) rfl rfl ?_)
        | (refine wpL_load_surf (SurfB.go H1.out Hb2.out hl1) rfl (.tmp 3) rfl rfl ?_)
        | ((with_reducible refine (right_ok s zs a n c _ (Hz.out.go Hb.out) hn hg).mono ?_); rintro e w2 ⟨he, hb⟩; rw [Ho.out] at he; subst he; have Hb2 := Lib.hid hb; clear hb)
        | ((with_reducible refine (refHas_any s zs p a n c _ (Hz.out.go (below_chain Hb.out Hb2.out)) hn hg).mono ?_); rintro e w3 ⟨he, hb⟩; rw [Hc'.out] at he; subst he; have Hb3 := Lib.hid (below_chain Hb2.out hb); clear hb)
        | (refine wpL_store_surf ⟨0, 0, 0, 0, 0, 0, 0, 0, 0, 0, 0, 0, 0, emptyS, 0, 0, 0, 0, 0, 0, 0⟩ none 0 0 ((Hb3.out.block _ hl2).trans H2.out) rfl rfl (.tmp 6) (.tmp 16) rfl rfl rfl ?_))
      refine bodyPost_ret (ret_surf_tmp (s := ⟨0, 0, 0, 0, 0, 0, 0, 0, 0, 0, 0, 0, 0, emptyS, 0, 0, 0, 0, 0, 0, 0⟩) (a := none) (n := 0) (c := 0) rfl rfl rfl (SurfB.stored ((Hb3.out.block _ hl2).trans H2.out) rfl _ _ _ _)) rfl ?_
      exact Or.inl ⟨by rw [Hset.out]; decide, by rw [Hset.out]; rfl, Below.put22 (below_chain Hb.out Hb3.out) (by omega) _ _ _ _⟩
    | true =>
      have hm : missI s zs n p = 0 := by unfold missI; rw [if_pos ho, hh]; rfl
      obtain ⟨r1, r2⟩ := hasB_range hh
      rw [hh] at hc'
      have Ho := Lib.hid ho; have Hm := Lib.hid hm; have Hc' := Lib.hid hc'; clear ho hm hc' hh
      go_upto_block 0 with (first
        | (refine wpL_load_surf H1.out rfl (.tmp 3) rfl rfl ?_)
        | (refine wpL_load_surf (SurfB.go H1.out Hb2.out hl1) rfl (.tmp 3) rfl rfl ?_)
        | ((with_reducible refine (right_ok s zs a n c _ (Hz.out.go Hb.out) hn hg).mono ?_); rintro e w2 ⟨he, hb⟩; rw [Ho.out] at he; subst he; have Hb2 := Lib.hid hb; clear hb)
        | ((with_reducible refine (refHas_any s zs p a n c _ (Hz.out.go (below_chain Hb.out Hb2.out)) hn hg).mono ?_); rintro e w3 ⟨he, hb⟩; rw [Hc'.out] at he; subst he; have Hb3 := Lib.hid (below_chain Hb2.out hb); clear hb))
      refine step_world (fun wx => SurfB wx w.heap.size s a n c ∧ wx.heap[w.heap.size + 1]? = some (.cells #[.int .i64 0, .int .i64 0, .int .i64 0, .int .i64 0, .int .i64 0, .int .i64 0, .int .i64 0, .int .i64 0, .int .i64 0, .int .i64 0, .int .i64 0, .int .i64 0, .int .i64 0, .string emptyS, .int .i64 0, .int .i64 0, .int .i64 0, .int .i64 0, .int .i64 0, .int .i64 0, .int .i64 0, .slice none 0 0] 92 (0, 0)) ∧ Below w.heap.size w wx) ⟨H1.out.go Hb3.out hl1, (Hb3.out.block _ hl2).trans H2.out, below_chain Hb.out Hb3.out⟩ ?_
      clear H1 H2 Hb Hb2 Hb3 hl1 hl2
      rintro w4 ⟨h1, h2, hb⟩
      have hl1 := h1.lt; have hl2 := lt_of_block h2
      have H1 := Lib.hid h1; have H2 := Lib.hid h2; have Hb := Lib.hid hb
      clear h1 h2 hb
      go_cut [7] from 18 to 74 (fun v7 wx => v7 = .int .i64 0 ∧ SurfB wx w.heap.size (s.put p v) a n c ∧ wx.heap[w.heap.size + 1]? = some (.cells #[.int .i64 0, .int .i64 0, .int .i64 0, .int .i64 0, .int .i64 0, .int .i64 0, .int .i64 0, .int .i64 0, .int .i64 0, .int .i64 0, .int .i64 0, .int .i64 0, .int .i64 0, .string emptyS, .int .i64 0, .int .i64 0, .int .i64 0, .int .i64 0, .int .i64 0, .int .i64 0, .int .i64 0, .slice none 0 0] 92 (0, 0)) ∧ Below w.heap.size w wx)
      case first =>
        have hq := fun h1 h2 => H1.out.put (p := p) h1 h2 v
        obtain ⟨k0, k1, k2, k3, k4, k5, k6, k7, k8, k9, k10, k11, k12, k13, k14, k15, k16, k17, k18, k19, k20, k21⟩ := H1.out.cells
        have f1 := H1.out.free 1; have f2 := H1.out.free 2; have f3 := H1.out.free 3; have f4 := H1.out.free 4; have f5 := H1.out.free 5; have f6 := H1.out.free 6; have f7 := H1.out.free 7; have f8 := H1.out.free 8; have f12 := H1.out.free 12; have f14 := H1.out.free 14; have f16 := H1.out.free 16; have f17 := H1.out.free 17; have f18 := H1.out.free 18; have f19 := H1.out.free 19; have f20 := H1.out.free 20; have f9 := H1.out.free 9; have f10 := H1.out.free 10
        have hfin : SurfB (w4.setCell ⟨w.heap.size, placeOff p, none⟩ (.int .i64 v)) w.heap.size (s.put p v) a n c ∧ (w4.setCell ⟨w.heap.size, placeOff p, none⟩ (.int .i64 v)).heap[w.heap.size + 1]? = some (.cells #[.int .i64 0, .int .i64 0, .int .i64 0, .int .i64 0, .int .i64 0, .int .i64 0, .int .i64 0, .int .i64 0, .int .i64 0, .int .i64 0, .int .i64 0, .int .i64 0, .int .i64 0, .string emptyS, .int .i64 0, .int .i64 0, .int .i64 0, .int .i64 0, .int .i64 0, .int .i64 0, .int .i64 0, .slice none 0 0] 92 (0, 0)) ∧ Below w.heap.size w (w4.setCell ⟨w.heap.size, placeOff p, none⟩ (.int .i64 v)) := ⟨hq r1 r2, obj_other H2.out _ (by simp) _, Hb.out.setCell (p := ⟨w.heap.size, placeOff p, none⟩) (Nat.le_refl _) _⟩
        have Hfin := Lib.hid hfin
        clear hq hfin Hc' Hm Ho H1 H2 Hb
        rcases ways17 r1 r2 with rfl | rfl | rfl | rfl | rfl | rfl | rfl | rfl | rfl | rfl | rfl | rfl | rfl | rfl | rfl | rfl | rfl
        all_goals
          go_wp2
          go_meet
          exact ⟨rfl, Hfin.out⟩
      case rest =>
        obtain ⟨rfl, h1, h2, hb⟩ := hcut
        have hl1 := h1.lt; have hl2 := lt_of_block h2
        have H1 := Lib.hid h1; have H2 := Lib.hid h2; have Hb := Lib.hid hb
        clear h1 h2 hb
        have hg2 : (s.put p v).glass.size ≤ 9223372036854775807 := by
          rcases ways17 r1 r2 with rfl | rfl | rfl | rfl | rfl | rfl | rfl | rfl | rfl | rfl | rfl | rfl | rfl | rfl | rfl | rfl | rfl <;> exact hg
        cases hk : okS (s.put p v) zs n with
        | false =>
          have hset : setI s zs n p v = 2 := by unfold setI; rw [if_pos Hm.out, hk]; rfl
          have Hk := Lib.hid hk; have Hset := Lib.hid hset; clear hk hset
          go_wp2_with (first
            | (refine wpL_load_surf H1.out rfl (.tmp 3) rfl rfl ?_)
            | ((with_reducible refine (right_ok (s.put p v) zs a n c _ (Hz.out.go Hb.out) hn hg2).mono ?_); rintro e w2 ⟨he, hb⟩; rw [Hk.out] at he; subst he; have Hb2 := Lib.hid hb; clear hb)
            | (refine wpL_store_surf ⟨0, 0, 0, 0, 0, 0, 0, 0, 0, 0, 0, 0, 0, emptyS, 0, 0, 0, 0, 0, 0, 0⟩ none 0 0 ((Hb2.out.block _ hl2).trans H2.out) rfl rfl (.tmp 6) (.tmp 78) rfl rfl rfl ?_))
          refine bodyPost_ret (ret_surf_tmp (s := ⟨0, 0, 0, 0, 0, 0, 0, 0, 0, 0, 0, 0, 0, emptyS, 0, 0, 0, 0, 0, 0, 0⟩) (a := none) (n := 0) (c := 0) rfl rfl rfl (SurfB.stored ((Hb2.out.block _ hl2).trans H2.out) rfl _ _ _ _)) rfl ?_
          exact Or.inl ⟨by rw [Hset.out]; decide, by rw [Hset.out]; rfl, Below.put22 (below_chain Hb.out Hb2.out) (by omega) _ _ _ _⟩
        | true =>
          have hset : setI s zs n p v = 0 := by unfold setI; rw [if_pos Hm.out, hk]; rfl
          have Hk := Lib.hid hk; have Hset := Lib.hid hset; clear hk hset
          go_upto_region 34 with (first
            | (refine wpL_load_surf H1.out rfl (.tmp 3) rfl rfl ?_)
            | ((with_reducible refine (right_ok (s.put p v) zs a n c _ (Hz.out.go Hb.out) hn hg2).mono ?_); rintro e w2 ⟨he, hb⟩; rw [Hk.out] at he; subst he; have Hb2 := Lib.hid hb; clear hb))
          refine step_world (fun wx => SurfB wx w.heap.size (s.put p v) a n c ∧ wx.heap[w.heap.size + 1]? = some (.cells #[.int .i64 0, .int .i64 0, .int .i64 0, .int .i64 0, .int .i64 0, .int .i64 0, .int .i64 0, .int .i64 0, .int .i64 0, .int .i64 0, .int .i64 0, .int .i64 0, .int .i64 0, .string emptyS, .int .i64 0, .int .i64 0, .int .i64 0, .int .i64 0, .int .i64 0, .int .i64 0, .int .i64 0, .slice none 0 0] 92 (0, 0)) ∧ Below w.heap.size w wx) ⟨H1.out.go Hb2.out hl1, (Hb2.out.block _ hl2).trans H2.out, below_chain Hb.out Hb2.out⟩ ?_
          clear Hb2 H1 H2 Hb hl1 hl2
          rintro w5 ⟨h1, h2, hb⟩
          have hl1 := h1.lt; have hl2 := lt_of_block h2
          obtain ⟨k0, k1, k2, k3, k4, k5, k6, k7, k8, k9, k10, k11, k12, k13, k14, k15, k16, k17, k18, k19, k20, k21⟩ := h1.cells
          have H1 := Lib.hid h1; have H2 := Lib.hid h2; have Hb := Lib.hid hb
          clear h1 h2 hb k0 k1 k2 k3 k4 k5 k6 k7 k8 k9 k10 k11 k12 k13 k14 k15 k16 k17 k18 k19 k20
          go_wp2_with (first
            | (refine wpList_append_irs Tryz.underlying90 Tryz.infoFilm3 rfl (by omega) (by omega) rfl (.tmp 79) (.tmp 81) rfl w5.heap.size (.slice (some ⟨w5.heap.size, 0, none⟩) 0 0) 0 [] rfl (World.ownsRow_made w5 #[] 0 (Nat.le_refl _) (by simp) rfl) (fun b => b < w5.heap.size) a n c zs rfl (IR.irp ((Hz.out.go Hb.out).below ((Below.refl _ _).alloc (Nat.le_refl _) _) (Nat.le_refl _)) (fun _ h => h)) Hc.out (by omega) (by simp) ?_; intro v' w6 hown hgrow; obtain ⟨a', c', rfl, hc', hi⟩ := own_irp hown; have hb2 : Below w5.heap.size w5 w6 := ((Below.refl _ _).alloc (Nat.le_refl _) _).grown hgrow (by simp) (by intro k hk; simp [Value.ownBlock] at hk; omega); clear hown hgrow k21; have fz := SurfB.free (SurfB.go H1.out hb2 hl1) 21; have k21 := (SurfB.cells (SurfB.go H1.out hb2 hl1)).2.2.2.2.2.2.2.2.2.2.2.2.2.2.2.2.2.2.2.2.2; have Hi := Lib.hid hi; have Hc2 := Lib.hid hc'; have Hb2 := Lib.hid hb2; clear hi hc' hb2)
            | (refine wpL_load_surf (SurfB.coat (SurfB.go H1.out Hb2.out hl1) a' n c') rfl (.tmp 3) rfl rfl ?_)
            | (refine wpL_store_surf (s.put p v) a' n c' (obj_other ((Hb2.out.block _ hl2).trans H2.out) ⟨w.heap.size, 21, none⟩ (by simp) _) rfl rfl (.tmp 6) (.tmp 84) rfl rfl rfl ?_))
          have hi2 : IRp (fun b => w5.heap.size ≤ b ∧ b < w6.heap.size) w6 3 a' n c' zs := by have k := Hi.out; rw [Nat.zero_add] at k; exact k
          have Hi2 := Lib.hid hi2
          refine bodyPost_ret (ret_surf_tmp (s := s.put p v) (a := a') (n := n) (c := c') rfl rfl rfl (SurfB.stored (obj_other ((Hb2.out.block _ hl2).trans H2.out) ⟨w.heap.size, 21, none⟩ (by simp) _) rfl (s.put p v) a' n c')) rfl ?_
          refine Or.inr ⟨Hset.out, a', c', rfl, Hi2.out.kept ((keptOn_setCells w.heap.size [_] 21 w6).mono ?_ |>.trans ((keptOn_setCells (w.heap.size + 1) (cells22 (s.put p v) a' n c') 0 _).mono ?_)) ?_, Hc2.out, ?_⟩
          · intro b hb; have := hb.1; omega
          · intro b hb; have := hb.1; omega
          · intro b hb
            refine ⟨by have := hb.1; have := Hb.out.size; omega, ?_⟩
            have := size_setCells (w.heap.size + 1) (cells22 (s.put p v) a' n c') 0 (w6.setCell ⟨w.heap.size, 21, none⟩ (.slice a' n c'))
            show b < ((w6.setCell ⟨w.heap.size, 21, none⟩ (.slice a' n c')).setCells (w.heap.size + 1) 0 (cells22 (s.put p v) a' n c')).heap.size
            rw [this]
            simpa using hb.2
          · exact Below.put22 ((below_chain Hb.out Hb2.out).setCell (p := ⟨w.heap.size, 21, none⟩) (Nat.le_refl _) _) (by omega) _ _ _ _

end Go.Proofs.YthommhfppeonpaaGreatDoor

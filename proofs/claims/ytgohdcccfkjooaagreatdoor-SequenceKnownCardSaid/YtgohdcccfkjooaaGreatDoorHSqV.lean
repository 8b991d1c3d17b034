/-
  DERIVED. The walk of the reader's part.
-/
import Derived.Test.YtgohdcccfkjooaaGreatDoorHSqU
namespace Go.Proofs.YtgohdcccfkjooaaGreatDoor
open Go.RowKit

theorem sl_at3 {W : World} {B0 : Nat} (d e f : Nat) (hn : W.heap[B0]? = some (.cells #[.int .i64 (d : Int), .int .i64 (e : Int), .int .i64 (f : Int)] 3 (0, 0))) : SL W.heap.size W (some ⟨B0, 0, none⟩) 3 3 ([d, e, f].map fun (x : Nat) => (x : Int)) := by
  refine ⟨rfl, Nat.le_refl _, fun _ => ⟨B0, 0, rfl, lt_of_block hn, fun j hj => ?_⟩⟩
  match j, hj with
  | 0, _ => exact obj_cell hn 0
  | 1, _ => exact obj_cell hn 1
  | 2, _ => exact obj_cell hn 2
  | j + 3, hj => omega
theorem Tryz.zeroPar (w : World) : (zeroValue 116).run Tryz.prog w = .ok (.agg #[.string { data := #[] }, .int .i64 0, .nilFunc]) w := by kernel_rfl
/-- the map is written: what stays -/
theorem OwnS.upd {B : Nat} {D : Nat → Prop} {W0 W W' : World} {c : Nat} {p : Ptr} {m : Value} {l : List SurfC} {seen : List (List UInt8)} {l0 : List SurfC} {y : SurfC} {css : List (List Value)} {q : Ptr} {bb cap bm : Nat} {fw : List UInt8} (h : OwnS B D W0 c p m l seen l0 y css q bb cap bm) (hb : Below W0.heap.size W0 W)
    (hm : MapOf W' bm ((seen.map bs) ++ [bs fw])) (hg : W.grownBy W' (some bm)) (hB : B ≤ W0.heap.size) :
    OwnS B D W' c p m l (seen ++ [fw]) l0 y css q bb cap bm ∧ (∀ b, b < W0.heap.size → b ≠ bm → W'.heap[b]? = W0.heap[b]?) ∧ Below B W0 W' := by
  have hk : ∀ b, b < W0.heap.size → b ≠ bm → W'.heap[b]? = W0.heap[b]? := fun b h1 h2 => (hg.block b (Nat.lt_of_lt_of_le h1 hb.size) (fun e => h2 (by cases e; rfl))).trans (hb.block b h1)
  have hbe : Below B W0 W' := (hb.mono hB).grown hg (Nat.le_trans hB hb.size) (fun k e => by cases e; exact h.bmB)
  exact ⟨h.mapSet hk hbe.size (by rw [List.map_append]; exact hm), hk, hbe⟩
theorem wpL_store_par {ops : Array Oper} {rest : List Oper} {op : Oper} {ac : Act} {w : World} {Q : Exit → Act → World → Prop} {b : Nat} {x0 y0 z0 f : Value} {s : ByteArray} {d : Int} (hb : w.heap[b]? = some (.cells #[x0, y0, z0] 116 (0, 0))) (hf : f.oneCell' = true) (hgd : op.guard = none) (p q : Operand) (ho : op.op = .store 116 p q)
    (hx : ac.eval p = .pointer (some ⟨b, 0, none⟩)) (hy : ac.eval q = .agg #[.string s, .int .i64 d, f])
    (hk : ∀ w', w'.heap[b]? = some (.cells #[.string s, .int .i64 d, f] 116 (0, 0)) → (∀ B w0, B ≤ b → Below B w0 w → Below B w0 w') → wpList Tryz.prog ops Q rest (ac.put op.dst undef) w') : wpList Tryz.prog ops Q (op :: rest) ac w := by
  refine wpList_store_mid hgd 116 p q ho b 0 #[.string s, .int .i64 d, f] hx hy (fun j hj => ?_) Tryz.infoPar (all_oneCell_toArray (cs := [.string s, .int .i64 d, f]) (by intro v hv; simp only [List.mem_cons, List.not_mem_nil, or_false] at hv; rcases hv with rfl | rfl | rfl; rfl; rfl; exact hf)) ?_
  · match j, hj with
    | 0, _ => simp [World.cell?, World.frozen?, hb]
    | 1, _ => simp [World.cell?, World.frozen?, hb]
    | 2, _ => simp [World.cell?, World.frozen?, hb]
    | j + 3, hj => simp at hj; omega
  · refine hk _ ?_ (fun B w0 hB h => ?_)
    · have := heap_setMid hb 0 [.string s, .int .i64 d, f] (by simp)
      simpa using this
    · exact below_setCells hB _ _ h
theorem othS_form (fw : List UInt8) : ∃ (nm : List UInt8) (d : Nat) (F : Value), (othS fw).getD (.agg #[.string { data := #[] }, .int .i64 0, .nilFunc]) = .agg #[.string (bs nm), .int .i64 (d : Int), F] ∧ ((othS fw).isSome = true → pNames.findIdx? (· == fw) = none ∧ ∃ fid off, F = .func (.func fid) #[] #[] ∧ PlaceF fid off d fw) ∧ ((othS fw).isSome = false → fw ≠ wHole ∧ fw ≠ wOrder) ∧ F.oneCell' = true := by
  by_cases h1 : fw = wHole
  · subst h1
    exact ⟨wHole, 6, _, rfl, fun _ => ⟨by decide, _, 15, rfl, place_hole⟩, (fun h => by cases h), rfl⟩
  · by_cases h2 : fw = wOrder
    · subst h2
      exact ⟨wOrder, 0, _, rfl, fun _ => ⟨by decide, _, 11, rfl, place_order⟩, (fun h => by cases h), rfl⟩
    · have : othS fw = none := by unfold othS; rw [if_neg h1, if_neg h2]
      rw [this]
      exact ⟨[], 0, .nilFunc, rfl, (fun h => by cases h), (fun _ => ⟨h1, h2⟩), rfl⟩
set_option maxRecDepth 100000 in
set_option maxHeartbeats 1600000 in
theorem rpart_any {B g cc A n c N : Nat} {D : Nat → Prop} {r : RdS} {W : World} {fw : List UInt8} {ws : List (List UInt8)} (h : RdX B g 7 cc D r W) (hat : r.at_ = 7) (hw : Wds W (some ⟨A, 0, none⟩) n c (fw :: ws) W.heap.size) (hl : ∀ s ∈ fw :: ws, s.length ≤ 100000) (hn : ws.length ≤ 100000)
    (hc : cc ≤ 100001) (hB : B ≤ W.heap.size) (hg : GW W) (hT : TW N W) (hNB : N ≤ B) :
    Calls Tryz.prog 91 #[.pointer (some ⟨g, 0, none⟩), .slice (some ⟨A, 0, none⟩) n c] W (StepP B g 7 cc D (partR r fw ws) W) := by
  have hdr : Below W.heap.size W W.drew := ⟨rfl, rfl, rfl, Nat.le_refl _, fun _ _ => rfl⟩
  have hwd := wds_go hw hdr
  obtain ⟨f, v, s, k, m, hA, hL⟩ := h.go hdr
  have hgB := hL.gB
  rcases hL.l.2 with ⟨h7, _⟩ | ⟨_, l0, y, css, q, bb, cap, bm, hS⟩ | ⟨h7, _⟩
  · omega
  · have e1 := hS.ep
    have e2 := hS.em
    subst e1; subst e2
    have c7 : W.drew.cell? ⟨g, 7, none⟩ = some (.slice (some ⟨bb, 0, none⟩) (l0.length + 1) cap) := (hA.cell 7).1
    have hlg : g < W.drew.heap.size := lt_of_block hA
    have hcap : l0.length + 1 ≤ cap := by
      rcases hS.row.2 with ⟨e, _⟩ | ⟨g', cap', cur, e, _, _, h3, _⟩
      · cases e
      · cases e; exact h3
    have hl0 : l0.length ≤ 100001 := by have := hL.l.1; have : l0.length + 1 ≤ cc := this; omega
    have hn1 : n = ws.length + 1 := by have := hw.1; simp at this; omega
    subst hn1
    have hcn : ws.length + 1 ≤ c := hw.2.1
    have cw0 : W.drew.cell? ⟨A, 0, none⟩ = some (.string (bs fw)) := by
      obtain ⟨g', off, e, _, h3⟩ := hwd.2.2 (by omega)
      cases e; exact h3 0 fw rfl
    have hlA : A < W.drew.heap.size := by
      obtain ⟨g', off, e, h3, _⟩ := hwd.2.2 (by omega)
      cases e; exact h3
    have HA := Lib.hid hA; have HL := Lib.hid hL; have HS := Lib.hid hS; have Hw := Lib.hid hwd; have Hl := Lib.hid hl; have Hg := Lib.hid (hg.below hdr); have HT := Lib.hid (hT.below (hdr.mono (Nat.le_trans hNB hB))); have Hd := Lib.hid hdr; have Hn := Lib.hid hn; have Hat := Lib.hid hat
    have hBd : B ≤ W.drew.heap.size := hB
    clear hA hL hS hwd hl hg hT hdr hw h hn hat
    go_enter Tryz.func91, Tryz.ntmps91
    go_upto_region 0 with fail
    refine wp_region_eager 13 [(0, true), (1, true), (2, true), (3, true), (4, true), (5, true), (6, true), (7, true), (8, true), (9, true), (10, true), (11, true), (12, true)] (by kernel_rfl) (by kernel_rfl) ?_
    have hwrap : IntKind.i64.wrap (l0.length : Int) = (l0.length : Int) := IntWalk.i64_in _ (by omega)
    iterate 11
      refine wpOrd_yield (v := ?_) rfl (fun _ _ _ h => h) (by rfl) ?_ ?_
      rotate_left
      · intro y hy
        have k1 := (hy.cell (p := ⟨g, 7, none⟩) hlg).trans c7
        go_simp
        with_reducible rfl
      try simp only [Act.put, List.setIfInBounds_toArray, List.set_cons_zero, List.set_cons_succ]
    iterate 2
      refine wpOrd_yield (v := ?_) rfl (fun _ _ _ h => h) (by rfl) ?_ ?_
      rotate_left
      · intro y hy
        go_simp
        try rw [hwrap]
        try rw [if_pos (show (l0.length : Int) < (l0.length : Int) + 1 by omega)]
        try with_reducible rfl
      try simp only [Act.put, List.setIfInBounds_toArray, List.set_cons_zero, List.set_cons_succ]
    refine wpOrd_nil rfl ?_
    by_cases hf : fw = wFilm
    · subst hf
      have hq : (bs wFilm == ({ data := #[102, 105, 108, 109] } : ByteArray)) = true := by decide
      have hb1 : Below W.drew.heap.size W.drew (W.alloc (.cells #[.int .i64 ((7 : Nat) : Int), .int .i64 ((0 : Nat) : Int), .int .i64 ((0 : Nat) : Int)] 3)).drew := (Below.refl W.drew.heap.size W.drew).alloc (Nat.le_refl _) (.cells #[.int .i64 ((7 : Nat) : Int), .int .i64 ((0 : Nat) : Int), .int .i64 ((0 : Nat) : Int)] 3)
      have h3n : (W.alloc (.cells #[.int .i64 ((7 : Nat) : Int), .int .i64 ((0 : Nat) : Int), .int .i64 ((0 : Nat) : Int)] 3)).drew.heap[W.heap.size]? = some (.cells #[.int .i64 ((7 : Nat) : Int), .int .i64 ((0 : Nat) : Int), .int .i64 ((0 : Nat) : Int)] 3 (0, 0)) := heap_alloc_new W _
      by_cases hc1 : c = 1
      · subst hc1
        obtain rfl : ws = [] := List.length_eq_zero_iff.1 (by omega)
        go_wp2_with fail
        refine (values_any [] [7, 0, 0] _ _ 0 3 _ 3 _ ⟨rfl, Nat.le_refl _, fun h0 => absurd h0 (by omega)⟩ (sl_at3 7 0 0 h3n) (by omega) (by omega) (fun s hs => by cases hs) (by decide) (Hg.out.below hb1)).mono ?_
        rintro e w2 he
        have hv : valsS [] [7, 0, 0] = none := rfl
        unfold ValuesR at he
        rw [hv] at he
        obtain ⟨rfl, hb2⟩ := he
        have hb : StepP B g 7 cc D (partR r wFilm []) W MalS w2 := StepP.bad (by rw [partR_film HS.out.el, hv]; rfl) (Hd.out.trans (below_chain hb1 hb2)) (by omega)
        have Hb2 := hb
        clear hb hv hb2 hb1 c7 cw0 hq
        unfold MalS at Hb2 ⊢
        have Hb3 := Lib.hid Hb2; clear Hb2
        go_wp2_with fail
        exact ⟨rfl, Hb3.out⟩
      · go_wp2_with fail
        refine (values_any ws [7, 0, 0] _ _ ws.length 3 _ 3 _ (wds_go (wds_tail Hw.out) hb1) (sl_at3 7 0 0 h3n) (by have := Hn.out; omega) (by omega) (fun s hs => Hl.out s (List.mem_cons_of_mem _ hs)) (by decide) (Hg.out.below hb1)).mono ?_
        rintro e w2 he
        have Hb1 := Lib.hid hb1; clear hb1 hq
        cases hv : valsS ws [7, 0, 0] with
        | none =>
          unfold ValuesR at he
          rw [hv] at he
          obtain ⟨rfl, hb2⟩ := he
          have hb : StepP B g 7 cc D (partR r wFilm ws) W MalS w2 := StepP.bad (by rw [partR_film HS.out.el, hv]; rfl) (Hd.out.trans (below_chain Hb1.out hb2)) (by omega)
          have Hb2 := hb
          clear hb hv hb2 Hb1 c7 cw0
          unfold MalS at Hb2 ⊢
          have Hb3 := Lib.hid Hb2; clear Hb2
          go_wp2_with fail
          exact ⟨rfl, Hb3.out⟩
        | some zs =>
          have hz := valsS_len _ _ _ hv
          unfold ValuesR at he
          rw [hv] at he
          obtain ⟨⟨a2, c2, rfl, hs, hfr⟩, hb2⟩ := he
          obtain ⟨z0, z1, z2, rfl⟩ : ∃ z0 z1 z2, zs = [z0, z1, z2] := by
            have : zs.length = 3 := by rw [hz.1, hz.2]; rfl
            match zs, this with
            | [x, y, z], _ => exact ⟨x, y, z, rfl⟩
          obtain ⟨b, off, rfl, hlb, hcs⟩ := hs.at (by show 0 < 3; omega)
          have hbf : W.heap.size < b := by have := hfr b rfl; simp at this; omega
          have n0 : w2.cell? ⟨b, off, none⟩ = some (.int .i64 z0) := hcs 0 (by show 0 < 3; omega)
          have n1 : w2.cell? ⟨b, off + 1, none⟩ = some (.int .i64 z1) := hcs 1 (by show 1 < 3; omega)
          have n2 : w2.cell? ⟨b, off + 2, none⟩ = some (.int .i64 z2) := hcs 2 (by show 2 < 3; omega)
          have hc2 : 3 ≤ c2 := hs.2.1
          have hA := HA.out.go (below_chain Hb1.out hb2)
          have hL := HL.out.go (below_chain Hb1.out hb2)
          have hS := HS.out.go (below_chain Hb1.out hb2)
          have hr : partR r wFilm ws = some ⟨{ r.x with l := l0 ++ [⟨y.s, y.zs ++ [z0, z1, z2]⟩] }, 7, r.seen⟩ := by rw [partR_film hS.el, hv]; rfl
          have hlg2 := lt_of_block hA
          have hbb := hS.bbB
          obtain ⟨cg, fg⟩ := hS.cell (show 21 < 22 by omega)
          change w2.cell? ⟨bb, l0.length * 22 + 21, none⟩ = some (.slice q.a q.n q.c) at cg
          have hqn := hS.qn
          have hqW : ∀ b, q.v.ownBlock = some b → b < W.drew.heap.size := fun b e => (ownBlock_lt HS.out.coat.row e).2
          have Hr := Lib.hid hr; have Hb := Lib.hid (Hd.out.trans (below_chain Hb1.out hb2)); have HA2 := Lib.hid hA; have HL2 := Lib.hid hL; have HS2 := Lib.hid hS; have HqW := Lib.hid hqW
          have hbbW := HS.out.bbB.2
          have hB2 : B ≤ w2.heap.size := by have := (below_chain Hb1.out hb2).size; omega
          clear hr hA hL hS hb2 hv hz hcs hs Hb1 Hw HA HL HS c7 cw0 hqW
          obtain ⟨qa, qn, qc⟩ := q
          change w2.cell? ⟨bb, l0.length * 22 + 21, none⟩ = some (.slice qa qn qc) at cg
          change qn ≤ cc at hqn
          go_upto_region 3 with fail
          refine wp_region_eagerK (S := fun x => x = bb ∨ x = b) 17 [(0, true), (1, true), (2, true), (3, true), (4, true), (5, true), (6, true), (7, true), (8, true), (9, true), (10, true), (11, true), (12, true), (13, true), (14, true), (15, false), (16, false)] (by kernel_rfl) (by kernel_rfl) ?_
          iterate 15
            refine wpOrd_yieldK (v := ?_) rfl (fun _ _ _ h => h) (by rfl) ?_ ?_
            rotate_left
            · intro y hy
              have k1 := (hy.cell (p := ⟨bb, l0.length * 22 + 21, none⟩) (Or.inl rfl)).trans cg
              have k2 := (hy.cell (p := ⟨b, off, none⟩) (Or.inr rfl)).trans n0
              have k3 := (hy.cell (p := ⟨b, off + 1, none⟩) (Or.inr rfl)).trans n1
              have k4 := (hy.cell (p := ⟨b, off + 2, none⟩) (Or.inr rfl)).trans n2
              go_simp
              with_reducible rfl
            try simp only [Act.put, List.setIfInBounds_toArray, List.set_cons_zero, List.set_cons_succ]
          refine wpOrd_stepK rfl rfl (fun K hK => ?_)
          go_simp
          refine hK _ _ (fun x hx => alloc_old (by rcases hx with rfl | rfl; exact hbb.2; exact hlb)) ?_
          clear hK K
          try simp only [Act.put, List.setIfInBounds_toArray, List.set_cons_zero, List.set_cons_succ]
          have hb24 : Below w2.heap.size w2 (w2.drew.alloc (.cells [Value.int .i64 z0, .int .i64 z1, .int .i64 z2].toArray 67)) := below_al ((Below.refl _ _).drew)
          have hA4 := HA2.out.go hb24
          have hL4 := HL2.out.go hb24
          have hS4 := HS2.out.go hb24
          have hlb4 := Nat.lt_of_lt_of_le hlb hb24.size
          have hB4 : B ≤ (w2.drew.alloc (.cells [Value.int .i64 z0, .int .i64 z1, .int .i64 z2].toArray 67)).heap.size := by have := hb24.size; omega
          have hlg4 := lt_of_block hA4
          have hbb4 := hS4.bbB
          refine wpOrd_stepK rfl rfl (fun K hK => ?_)
          refine wp_append_E Tryz.underlying68 Tryz.infoFilm3 rfl (by omega) (by omega) _ _ rfl B _ (.slice qa qn qc) qn w2.heap.size _ [.int .i64 z0, .int .i64 z1, .int .i64 z2] rfl hS4.coat.row (heap_alloc_new w2.drew _) rfl rfl (by simp [Value.oneCell']) (by omega) hB4 ?_
          intro g2 cap2 w3 hrow hgr hg2
          have hne1 : (Value.slice qa qn qc).ownBlock ≠ some bb := hS4.ne.1
          have hne2 : (Value.slice qa qn qc).ownBlock ≠ some b := fun e => by have h9 : b < W.heap.size := HqW.out b e; omega
          refine hK _ _ (fun x hx => hgr.kept x (by rcases hx with rfl | rfl; exact hbb4.2; exact hlb4) (by rcases hx with rfl | rfl; exact hne1; exact hne2)) ?_
          clear hK K
          have hcell : w3.cell? ⟨bb, l0.length * 22 + 21, none⟩ = some (.slice qa qn qc) ∧ w3.frozen? ⟨bb, l0.length * 22 + 21, none⟩ = false := by
            have hk := hgr.kept bb hbb4.2 hne1
            obtain ⟨q1, q2⟩ := hS4.cell (show 21 < 22 by omega)
            exact ⟨by simp only [World.cell?, hk]; exact q1, by simp only [World.frozen?, hk]; exact q2⟩
          obtain ⟨cg3, fg3⟩ := hcell
          have HA := Lib.hid hA4; have HL := Lib.hid hL4; have HS := Lib.hid hS4; have Hb := Lib.hid (below_chain Hb.out hb24); have Hrow := Lib.hid hrow; have Hgr := Lib.hid hgr
          clear hA4 hL4 hS4 hb24 hrow hgr cg fg n0 n1 n2
          try simp only [Act.put, List.setIfInBounds_toArray, List.set_cons_zero, List.set_cons_succ]
          refine wpOrd_nilK rfl ?_
          go_wp2_with fail
          go_end0
          exact stepP_film Hr.out Hat.out Hb.out HA.out HL.out HS.out Hrow.out Hgr.out hg2 hB hc
    · have hfq : (fw == [102, 105, 108, 109]) = false := by rw [beq_eq_false_iff_ne]; exact hf
      obtain ⟨c10, f10⟩ := HA.out.cell 10
      change W.drew.cell? ⟨g, 10, none⟩ = some (.map (some bm)) at c10
      have hbml : bm < W.drew.heap.size := HS.out.map.lt
      have Hf := Lib.hid hf; clear hf
      go_upto_region 4 with fail
      by_cases h1 : ws.length = 1
      · obtain ⟨v', rfl⟩ : ∃ v', ws = [v'] := by
          match ws, h1 with
          | [x], _ => exact ⟨x, rfl⟩
        have Hmem := Lib.hid (memB_bs fw r.seen)
        have cw1 : W.drew.cell? ⟨A, 1, none⟩ = some (.string (bs v')) := by
          obtain ⟨g', off, e, _, h3⟩ := Hw.out.2.2 (by simp)
          cases e; exact h3 1 v' rfl
        have Hmap := Lib.hid HS.out.map
        refine wp_region_eager 14 [(0, true), (1, true), (2, true), (3, true), (4, true), (5, true), (6, true), (7, true), (8, true), (9, true), (10, true), (11, true), (12, true), (13, true)] (by kernel_rfl) (by kernel_rfl) ?_
        iterate 14
          refine wpOrd_yield (v := ?_) rfl (fun _ _ _ h => h) (by rfl) ?_ ?_
          rotate_left
          · intro y hy
            have k1 := (hy.cell (p := ⟨g, 10, none⟩) hlg).trans c10
            have k2 := (hy.cell (p := ⟨A, 0, none⟩) hlA).trans cw0
            have k3 := run_lookup_str Tryz.underlying126 Tryz.underlying9 (Tryz.zeroBool y) (Hmap.out.block (hy.block bm hbml)) (bs fw)
            go_simp
            with_reducible rfl
          try simp only [Act.put, List.setIfInBounds_toArray, List.set_cons_zero, List.set_cons_succ]
        refine wpOrd_nil rfl ?_
        by_cases hsn : fw ∈ r.seen
        · have hmt : memB (bs fw) (r.seen.map bs) = true := by rw [Hmem.out]; exact decide_eq_true hsn
          have hb : StepP B g 7 cc D (partR r fw [v']) W MalS W.drew.drew := StepP.bad (partR_seen Hf.out hsn) Hd.out.drew (by omega)
          have Hb2 := hb
          clear hb hsn c10 cw0 cw1 c7
          unfold MalS at Hb2
          have Hb3 := Lib.hid Hb2; clear Hb2
          go_wp2_with fail
          refine (must_no _).mono ?_
          rintro e w3 ⟨rfl, rfl⟩
          unfold MalS
          go_wp2_with fail
          exact ⟨rfl, Hb3.out⟩
        · have hmt : memB (bs fw) (r.seen.map bs) = false := by rw [Hmem.out]; exact decide_eq_false hsn
          have Hsn := Lib.hid hsn; clear hsn
          go_wp2_with fail
          refine (must_yes _).mono ?_
          rintro e w3 ⟨rfl, rfl⟩
          go_upto_region 5 with fail
          refine wp_region_eager 7 [(0, true), (1, true), (2, true), (3, true), (4, true), (5, true), (6, true)] (by kernel_rfl) (by kernel_rfl) ?_
          iterate 7
            refine wpOrd_yield (v := ?_) rfl (fun _ _ _ h => h) (by rfl) ?_ ?_
            rotate_left
            · intro y hy
              have k1 := (hy.cell (p := ⟨g, 10, none⟩) hlg).trans c10
              have k2 := (hy.cell (p := ⟨A, 0, none⟩) hlA).trans cw0
              go_simp
              with_reducible rfl
            try simp only [Act.put, List.setIfInBounds_toArray, List.set_cons_zero, List.set_cons_succ]
          refine wpOrd_nil rfl ?_
          have hAb : A ≠ bm := fun e => by
            obtain ⟨es, clock, hm, _⟩ := Hmap.out
            rw [e, World.cell?, hm] at cw0; cases cw0
          have hgb : g ≠ bm := fun e => by have := HS.out.bmB; omega
          refine wpList_update_str Tryz.underlying126 Tryz.underlying9 rfl (.tmp 67) (.tmp 70) (.const (.bool true)) rfl (b := bm) (ks := r.seen.map bs) Hmap.out (bs fw) hmt rfl rfl rfl ?_
          intro w3 hm3 hg3
          obtain ⟨hS3, hk3, hbe3⟩ := HS.out.upd (by exact ⟨rfl, rfl, rfl, Nat.le_refl _, fun _ _ => rfl⟩) hm3 hg3 hBd
          have HS3 := Lib.hid hS3; have Hk3 := Lib.hid hk3; have Hbe3 := Lib.hid hbe3
          clear hm3 hg3 hS3 hk3 hbe3
          have hHA3 : ReaderA w3 g r.x 7 f v ⟨some ⟨bb, 0, none⟩, l0.length + 1, cap⟩ k (.map (some bm)) := (Hk3.out g hlg hgb).trans HA.out
          have hs3 := Hbe3.out.size
          have d0' : w3.cell? ⟨A, 0, none⟩ = some (.string (bs fw)) := by rw [← cw0]; simp only [World.cell?, Hk3.out A hlA hAb]
          have d1' : w3.cell? ⟨A, 1, none⟩ = some (.string (bs v')) := by rw [← cw1]; simp only [World.cell?, Hk3.out A hlA hAb]
          have hlA3 : A < w3.heap.size := Nat.lt_of_lt_of_le hlA hs3
          have HT3 := Lib.hid (HT.out.below (Hbe3.out.mono hNB)); have Hg3 := Lib.hid (Hg.out.of (Hbe3.out.mono hNB) HT.out.glo)
          have hpb : ∀ W', Below w3.heap.size w3 W' → partR r fw [v'] = none → StepP B g 7 cc D (partR r fw [v']) W MalS W' := fun W' hb hr => stepP_bad2 hr (fun b h1 h2 => (hb.block b (Nat.lt_of_lt_of_le h1 hs3)).trans (Hk3.out b h1 h2)) (Hd.out.mono hB |>.trans (Hbe3.out.trans (hb.mono (by omega)))) HS.out.dbm (by omega)
          have Hpb := Lib.hid hpb
          clear hHA3 c7 c10 cw0 cw1 hpb
          by_cases hgl : fw = wGlass
          · subst hgl
            have hr : partR r wGlass [v'] = some ⟨{ r.x with l := l0 ++ [⟨{ y.s with glass := bs v' }, y.zs⟩] }, 7, r.seen ++ [wGlass]⟩ := by rw [partR_one HS.out.el Hf.out Hsn.out, if_pos rfl]
            obtain ⟨cg3, fg3⟩ := HS3.out.cell (show 13 < 22 by omega)
            change w3.cell? ⟨bb, l0.length * 22 + 13, none⟩ = some (.string y.s.glass) at cg3
            have Hr := Lib.hid hr; clear hr
            go_wp2_with fail
            go_end0
            exact stepP_from (stepP_put Hr.out Hat.out HA.out HL.out HS.out Hk3.out Hbe3.out HS3.out.map (off := 13) (by omega) rfl (by show (bs v').size ≤ _; rw [bsz]; have := Hl.out v' (by simp); omega) hc) Hd.out (by omega)
          · have hglq : (fw == [103, 108, 97, 115, 115]) = false := by rw [beq_eq_false_iff_ne]; exact hgl
            obtain ⟨nm0, d0, F0, hO, hsome, hnone, hF0⟩ := othS_form fw
            obtain ⟨ob, ol, hob, hobN, hmv, hlook⟩ := HT3.out.oth
            have hobl : ob < w3.heap.size := by omega
            have hG3 : 3 < w3.heap.size := Nat.lt_of_lt_of_le (Nat.lt_of_lt_of_le (show 3 < 14 by decide) HT.out.glo) (by omega)
            have hlk : ∀ y, Below w3.heap.size w3 y → (Instr.lookup 176 (.map (some ob)) (.string (bs fw)) true).run Tryz.prog y = .ok (.tuple #[.agg #[.string (bs nm0), .int .i64 (d0 : Int), F0], .bool (othS fw).isSome]) y := fun y hy => by
              rw [run_lookup_V Tryz.underlying176 Tryz.underlying9 (Tryz.zeroPar y) (hmv.block (hy.block ob hobl)) fw true, hlook fw, hO]
              rfl
            have Hgl := Lib.hid hgl; have Hsome := Lib.hid hsome; have Hnone := Lib.hid hnone; have Hlk := Lib.hid hlk
            clear hgl hO hsome hnone hmv hlook hlk hglq
            generalize (othS fw).isSome = ok0 at *
            have hglq : (fw == [103, 108, 97, 115, 115]) = false := by rw [beq_eq_false_iff_ne]; exact Hgl.out
            go_upto_region 8 with fail
            refine wp_region_floats 9 [7] [(8, 6, .cells #[.string { data := #[] }, .int .i64 0, .nilFunc] 116)] [(0, true), (1, true), (2, true), (3, true), (4, true), (5, true), (6, true), (7, true)] (by kernel_rfl) (by kernel_rfl) ⟨by simp, by simp, by (simp only [List.forall_mem_cons]; exact ⟨⟨by omega, _, rfl, rfl, rfl, fun _ _ => rfl⟩, fun _ h => by cases h⟩)⟩ (fun _ _ _ _ _ h => h) (fun _ _ o _ _ h => by cases o <;> exact h) ?_
            iterate 7
              refine wpG_yield (v := ?_) rfl rfl (by rfl) ?_ ?_
              rotate_left
              · intro y hy
                have k1 := (hy.cell (p := ⟨3, 0, none⟩) hG3).trans hob
                have k2 := (hy.cell (p := ⟨A, 0, none⟩) hlA3).trans d0'
                have k3 := Hlk.out y (below_undrew (k := 1) hy)
                go_simp
                with_reducible rfl
              try simp only [Act.put, List.setIfInBounds_toArray, List.set_cons_zero, List.set_cons_succ]
            iterate 1
              refine wpG_pure (v := ?_) rfl (by rfl) ?_ ?_
              rotate_left
              · intro y
                go_simp
                with_reducible rfl
              try simp only [Act.put, List.setIfInBounds_toArray, List.set_cons_zero, List.set_cons_succ]
            refine wpG_nil1 (l := [_, _]) rfl (fun b1 w4 hC hb4 hbl => ?_)
            have hb34 : Below w3.heap.size w3 w4 := below_undrew (k := 1) hb4
            cases hfi : pNames.findIdx? (· == fw) with
            | none =>
              have hfI : findI fw = -1 := by unfold findI; rw [hfi]; rfl
              cases ok0 with
              | false =>
                obtain ⟨hn1, hn2⟩ := Hnone.out rfl
                have hpn : partR r fw [v'] = none := by rw [partR_one HS.out.el Hf.out Hsn.out, if_neg Hgl.out, digS_none hfi hn1 hn2]
                have Hpn := Lib.hid hpn; have Hn1 := Lib.hid hn1; have Hn2 := Lib.hid hn2; have Hfi := Lib.hid hfi
                clear hpn hn1 hn2 hfi
                go_wp2_with (first
                  | (refine wpL_store_par hbl hF0 rfl (.tmp 6) (.tmp 87) rfl rfl rfl ?_; intro w5 hb5 hbe5; have hb35 := hbe5 w3.heap.size w3 hC hb34; have e0 := (hb35.cell (p := ⟨A, 0, none⟩) hlA3).trans d0'; have HB5 := Lib.hid hb5; have HB35 := Lib.hid hb35; clear hb5 hbe5 hb35)
                  | (refine (find_any fw N _ (HT3.out.below (HB35.out.mono (by omega))) (by have := HB35.out.size; omega)).mono ?_; rintro e w6 ⟨rfl, hb6⟩; have HB36 := Lib.hid (below_chain HB35.out hb6); have HB6 := Lib.hid ((hb6.block b1 (lt_of_block HB5.out)).trans HB5.out); clear hb6))
                refine (must_no _).mono ?_
                rintro e w8 ⟨rfl, rfl⟩
                have hbd := Hpb.out _ HB36.out Hpn.out
                unfold MalS at hbd ⊢
                have Hbd := Lib.hid hbd; clear hbd
                go_wp2_with fail
                exact ⟨rfl, Hbd.out⟩
              | true =>
                obtain ⟨_, fid, off, rfl, hpl⟩ := Hsome.out rfl
                have Hpl := Lib.hid hpl; have Hfi := Lib.hid hfi
                clear hpl hfi
                go_wp2_with (first
                  | (refine wpL_store_par hbl hF0 rfl (.tmp 6) (.tmp 87) rfl rfl rfl ?_; intro w5 hb5 hbe5; have hb35 := hbe5 w3.heap.size w3 hC hb34; have e0 := (hb35.cell (p := ⟨A, 0, none⟩) hlA3).trans d0'; have HB5 := Lib.hid hb5; have HB35 := Lib.hid hb35; clear hb5 hbe5 hb35)
                  | (refine (find_any fw N _ (HT3.out.below (HB35.out.mono (by omega))) (by have := HB35.out.size; omega)).mono ?_; rintro e w6 ⟨rfl, hb6⟩; have HB36 := Lib.hid (below_chain HB35.out hb6); have HB6 := Lib.hid ((hb6.block b1 (lt_of_block HB5.out)).trans HB5.out); clear hb6))
                refine (must_yes _).mono ?_
                rintro e w8 ⟨rfl, rfl⟩
                have hpl := Hpl.out
                have hbT := HB6.out
                have HbT := HB36
                go_upto_region 13 with fail
                have e1 : w6.cell? ⟨b1, 1, none⟩ = some (.int .i64 (d0 : Int)) := obj_cell hbT 1
                have e2 : w6.cell? ⟨b1, 2, none⟩ = some (.func (.func fid) #[] #[]) := obj_cell hbT 2
                have hb1l := lt_of_block hbT
                have d1T : w6.cell? ⟨A, 1, none⟩ = some (.string (bs v')) := (HbT.out.cell (p := ⟨A, 1, none⟩) hlA3).trans d1'
                have hlAT : A < w6.heap.size := Nat.lt_of_lt_of_le hlA3 HbT.out.size
                refine wp_region_eager 11 [(0, true), (1, true), (2, true), (4, true), (5, true), (6, true), (7, true), (8, true), (3, false), (9, false), (10, true)] (by kernel_rfl) (by kernel_rfl) ?_
                iterate 8
                  refine wpOrd_yield (v := ?_) rfl (fun _ _ _ h => h) (by rfl) ?_ ?_
                  rotate_left
                  · intro y hy
                    have k1 := (hy.cell (p := ⟨b1, 1, none⟩) hb1l).trans e1
                    have k2 := (hy.cell (p := ⟨b1, 2, none⟩) hb1l).trans e2
                    have k3 := (hy.cell (p := ⟨A, 1, none⟩) hlAT).trans d1T
                    go_simp
                    with_reducible rfl
                  try simp only [Act.put, List.setIfInBounds_toArray, List.set_cons_zero, List.set_cons_succ]
                refine wpOrd_step rfl rfl (fun KK hKK => ?_)
                have hent := hpl.ent
                go_simp
                clear hent
                refine (hpl.call bb (l0.length * 22) _).mono ?_
                rintro e w7 ⟨rfl, rfl⟩
                refine hKK _ _ (Below.refl _ _) ?_
                clear hKK KK
                try simp only [Act.put, List.setIfInBounds_toArray, List.set_cons_zero, List.set_cons_succ]
                refine wpOrd_step rfl rfl (fun KK hKK => ?_)
                go_simp
                refine (value_any v' d0 _ (Hl.out v' (by simp)) hpl.d18 (Hg3.out.below HbT.out.drew)).mono ?_
                rintro e w7 ⟨he, hb7⟩
                have hb37 : Below w3.heap.size w3 w7 := HbT.out.drew.trans (hb7.mono HbT.out.size)
                cases hv : valS v' d0 with
                | none =>
                  unfold ValueR at he
                  rw [hv] at he
                  subst he
                  have hbd := Hpb.out w7 hb37 (by rw [partR_one HS.out.el Hf.out Hsn.out, if_neg Hgl.out, hpl.dig]; show (valS v' d0).map _ = none; rw [hv]; rfl)
                  unfold MalS at hbd ⊢
                  exact ⟨rfl, hbd⟩
                | some z =>
                  unfold ValueR at he
                  rw [hv] at he
                  subst he
                  refine hKK _ _ hb7 ?_
                  clear hKK KK
                  try simp only [Act.put, List.setIfInBounds_toArray, List.set_cons_zero, List.set_cons_succ]
                  have hr : partR r fw [v'] = some ⟨{ r.x with l := l0 ++ [⟨putN y.s fw z, y.zs⟩] }, 7, r.seen ++ [fw]⟩ := by
                    rw [partR_one HS.out.el Hf.out Hsn.out, if_neg Hgl.out, hpl.dig]
                    show (valS v' d0).map _ = _
                    rw [hv]; rfl
                  have hS7 := HS3.out.go hb37
                  obtain ⟨cg7, fg7⟩ := hS7.cell hpl.lt
                  obtain ⟨u7, hu7⟩ : ∃ u, (cells22 y.s q.a q.n q.c)[off]? = some u := ⟨_, List.getElem?_eq_getElem (by show off < 22; exact hpl.lt)⟩
                  rw [hu7] at cg7
                  have Hr := Lib.hid hr; have HS7 := Lib.hid hS7; have Hb37 := Lib.hid hb37; have Hpl := Lib.hid hpl
                  clear hr hS7 hb37 hpl hu7 hv hb7 e1 e2 hbT d1T
                  iterate 1
                    refine wpOrd_yield (v := ?_) rfl (fun _ _ _ h => h) (by rfl) ?_ ?_
                    rotate_left
                    · intro y hy
                      skip
                      go_simp
                      with_reducible rfl
                    try simp only [Act.put, List.setIfInBounds_toArray, List.set_cons_zero, List.set_cons_succ]
                  refine wpOrd_nil rfl ?_
                  go_wp2_with fail
                  go_end0
                  exact stepP_from (stepP_put Hr.out Hat.out HA.out HL.out HS.out (fun b h1 h2 => (Hb37.out.block b (Nat.lt_of_lt_of_le h1 hs3)).trans (Hk3.out b h1 h2)) (Hbe3.out.trans (Hb37.out.mono (by omega))) HS7.out.map Hpl.out.lt (Hpl.out.set _ _ _ _ _) (by rw [Hpl.out.glass]; exact HS.out.glass) hc) Hd.out (by omega)
            | some i =>
              have hfI : findI fw = (i : Int) := by unfold findI; rw [hfi]; rfl
              have hi17 : i < 17 := findIdx_lt hfi
              have Hpl := Lib.hid (place_par hfi)
              have Hfi := Lib.hid hfi
              clear hfi
              go_wp2_with (first
                | (refine wpL_store_par hbl hF0 rfl (.tmp 6) (.tmp 87) rfl rfl rfl ?_; intro w5 hb5 hbe5; have hb35 := hbe5 w3.heap.size w3 hC hb34; have e0 := (hb35.cell (p := ⟨A, 0, none⟩) hlA3).trans d0'; have HB5 := Lib.hid hb5; have HB35 := Lib.hid hb35; clear hb5 hbe5 hb35)
                | (refine (find_any fw N _ (HT3.out.below (HB35.out.mono (by omega))) (by have := HB35.out.size; omega)).mono ?_; rintro e w6 ⟨rfl, hb6⟩; have HB36 := Lib.hid (below_chain HB35.out hb6); have HB6 := Lib.hid ((hb6.block b1 (lt_of_block HB5.out)).trans HB5.out); clear hb6)
                | (refine wpL_load_par (.tmp 96) rfl rfl rfl ((HT3.out.below (HB36.out.mono (by omega))).par i hi17) ?_)
                | (refine wpL_store_par HB6.out rfl rfl (.tmp 6) (.tmp 97) rfl rfl rfl ?_; intro w8 hb8 hbe8; have hb38 := hbe8 w3.heap.size w3 hC HB36.out; have HB8 := Lib.hid hb8; have HB38 := Lib.hid hb38; clear hb8 hbe8 hb38))
              refine (must_yes _).mono ?_
              rintro e w9 ⟨rfl, rfl⟩
              have hpl := Hpl.out
              have hbT := HB8.out
              have HbT := HB38
              go_upto_region 13 with fail
              have e1 : w8.cell? ⟨b1, 1, none⟩ = some (.int .i64 ((digP (i + 1)) : Int)) := obj_cell hbT 1
              have e2 : w8.cell? ⟨b1, 2, none⟩ = some (.func (.func (fnP i)) #[] #[]) := obj_cell hbT 2
              have hb1l := lt_of_block hbT
              have d1T : w8.cell? ⟨A, 1, none⟩ = some (.string (bs v')) := (HbT.out.cell (p := ⟨A, 1, none⟩) hlA3).trans d1'
              have hlAT : A < w8.heap.size := Nat.lt_of_lt_of_le hlA3 HbT.out.size
              refine wp_region_eager 11 [(0, true), (1, true), (2, true), (4, true), (5, true), (6, true), (7, true), (8, true), (3, false), (9, false), (10, true)] (by kernel_rfl) (by kernel_rfl) ?_
              iterate 8
                refine wpOrd_yield (v := ?_) rfl (fun _ _ _ h => h) (by rfl) ?_ ?_
                rotate_left
                · intro y hy
                  have k1 := (hy.cell (p := ⟨b1, 1, none⟩) hb1l).trans e1
                  have k2 := (hy.cell (p := ⟨b1, 2, none⟩) hb1l).trans e2
                  have k3 := (hy.cell (p := ⟨A, 1, none⟩) hlAT).trans d1T
                  go_simp
                  with_reducible rfl
                try simp only [Act.put, List.setIfInBounds_toArray, List.set_cons_zero, List.set_cons_succ]
              refine wpOrd_step rfl rfl (fun KK hKK => ?_)
              have hent := hpl.ent
              go_simp
              clear hent
              refine (hpl.call bb (l0.length * 22) _).mono ?_
              rintro e w7 ⟨rfl, rfl⟩
              refine hKK _ _ (Below.refl _ _) ?_
              clear hKK KK
              try simp only [Act.put, List.setIfInBounds_toArray, List.set_cons_zero, List.set_cons_succ]
              refine wpOrd_step rfl rfl (fun KK hKK => ?_)
              go_simp
              refine (value_any v' (digP (i + 1)) _ (Hl.out v' (by simp)) hpl.d18 (Hg3.out.below HbT.out.drew)).mono ?_
              rintro e w7 ⟨he, hb7⟩
              have hb37 : Below w3.heap.size w3 w7 := HbT.out.drew.trans (hb7.mono HbT.out.size)
              cases hv : valS v' (digP (i + 1)) with
              | none =>
                unfold ValueR at he
                rw [hv] at he
                subst he
                have hbd := Hpb.out w7 hb37 (by rw [partR_one HS.out.el Hf.out Hsn.out, if_neg Hgl.out, hpl.dig]; show (valS v' (digP (i + 1))).map _ = none; rw [hv]; rfl)
                unfold MalS at hbd ⊢
                exact ⟨rfl, hbd⟩
              | some z =>
                unfold ValueR at he
                rw [hv] at he
                subst he
                refine hKK _ _ hb7 ?_
                clear hKK KK
                try simp only [Act.put, List.setIfInBounds_toArray, List.set_cons_zero, List.set_cons_succ]
                have hr : partR r fw [v'] = some ⟨{ r.x with l := l0 ++ [⟨putN y.s fw z, y.zs⟩] }, 7, r.seen ++ [fw]⟩ := by
                  rw [partR_one HS.out.el Hf.out Hsn.out, if_neg Hgl.out, hpl.dig]
                  show (valS v' (digP (i + 1))).map _ = _
                  rw [hv]; rfl
                have hS7 := HS3.out.go hb37
                obtain ⟨cg7, fg7⟩ := hS7.cell hpl.lt
                obtain ⟨u7, hu7⟩ : ∃ u, (cells22 y.s q.a q.n q.c)[offP i]? = some u := ⟨_, List.getElem?_eq_getElem (by show offP i < 22; exact hpl.lt)⟩
                rw [hu7] at cg7
                have Hr := Lib.hid hr; have HS7 := Lib.hid hS7; have Hb37 := Lib.hid hb37; have Hpl := Lib.hid hpl
                clear hr hS7 hb37 hpl hu7 hv hb7 e1 e2 hbT d1T
                iterate 1
                  refine wpOrd_yield (v := ?_) rfl (fun _ _ _ h => h) (by rfl) ?_ ?_
                  rotate_left
                  · intro y hy
                    skip
                    go_simp
                    with_reducible rfl
                  try simp only [Act.put, List.setIfInBounds_toArray, List.set_cons_zero, List.set_cons_succ]
                refine wpOrd_nil rfl ?_
                go_wp2_with fail
                go_end0
                exact stepP_from (stepP_put Hr.out Hat.out HA.out HL.out HS.out (fun b h1 h2 => (Hb37.out.block b (Nat.lt_of_lt_of_le h1 hs3)).trans (Hk3.out b h1 h2)) (Hbe3.out.trans (Hb37.out.mono (by omega))) HS7.out.map Hpl.out.lt (Hpl.out.set _ _ _ _ _) (by rw [Hpl.out.glass]; exact HS.out.glass) hc) Hd.out (by omega)
      · have h0 : ((ws.length : Int) + 1 == 2) = false := by rw [beq_eq_false_iff_ne]; omega
        have hb : StepP B g 7 cc D (partR r fw ws) W MalS W.drew.drew := StepP.bad (partR_len Hf.out h1) Hd.out.drew (by omega)
        have Hb2 := hb
        clear hb h1 c10 cw0 c7
        unfold MalS at Hb2
        have Hb3 := Lib.hid Hb2; clear Hb2
        refine wp_region_eager 14 [(0, true), (1, true), (2, true), (3, true), (4, true), (5, true), (6, true), (7, true), (8, true), (9, true), (10, true), (11, true), (12, true), (13, true)] (by kernel_rfl) (by kernel_rfl) ?_
        iterate 4
          refine wpOrd_yield (v := ?_) rfl (fun _ _ _ h => h) (by rfl) ?_ ?_
          rotate_left
          · intro y hy
            skip
            go_simp
            with_reducible rfl
          try simp only [Act.put, List.setIfInBounds_toArray, List.set_cons_zero, List.set_cons_succ]
        iterate 9
          refine wpOrd_skip rfl (fun _ _ _ h => h) (by rfl) ?_
          try simp only [Act.put, List.setIfInBounds_toArray, List.set_cons_zero, List.set_cons_succ]
        iterate 1
          refine wpOrd_yield (v := ?_) rfl (fun _ _ _ h => h) (by rfl) ?_ ?_
          rotate_left
          · intro y hy
            skip
            go_simp
            with_reducible rfl
          try simp only [Act.put, List.setIfInBounds_toArray, List.set_cons_zero, List.set_cons_succ]
        refine wpOrd_nil rfl ?_
        go_wp2_with fail
        refine (must_no _).mono ?_
        rintro e w3 ⟨rfl, rfl⟩
        unfold MalS
        go_wp2_with fail
        exact ⟨rfl, Hb3.out⟩
  · omega
end Go.Proofs.YtgohdcccfkjooaaGreatDoor

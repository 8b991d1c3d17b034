/-
  DERIVED. Drafts of lenses: their configurations.
-/
import Derived.Test.YthommhfppeonpaaGreatDoorKac
import Derived.Test.YthommhfppeonpaaGreatDoorGab
import Derived.Test.YthommhfppeonpaaGreatDoorKaf
namespace Go.Proofs.YthommhfppeonpaaGreatDoor
open Go.RowKit

/-- configurations: at most two -/
def RetCfg (w : World) (e : Ending) (w' : World) : Prop :=
  ∃ a n c cf, e = .returned (.slice a n c) ∧ RR ConfR 2 (fun b => w.heap.size ≤ b ∧ b < w'.heap.size) w' a n c cf ∧ n ≤ 2 ∧ Below w.heap.size w w'

def nearN : ByteArray := ⟨#[110, 101, 97, 114]⟩
def farNm : ByteArray := ⟨#[102, 97, 114]⟩

theorem irp_blk {S : Nat → Prop} {w : World} {T : TypeId} {cs : Array Value} {ys : List Int} {k b : Nat} (he : w.heap[b]? = some (.cells cs T (0, 0))) (hb : S b) (hk : ys.length = 1 * k) (h : cs = (ys.map (Value.int .i64)).toArray) : IRp S w k (some ⟨b, 0, none⟩) 1 1 ys := by
  subst h
  refine ⟨hk, Nat.le_refl _, fun _ => ⟨_, 0, rfl, hb, fun j hj => ?_⟩⟩
  have hj2 : j < ys.length := by omega
  rw [Nat.zero_add, obj_cell he j]
  simp [List.getD_eq_getElem?_getD, hj2]

theorem bel_alloc {B : Nat} {w : World} {o : Obj} (h : B ≤ w.heap.size) : Below B w (w.alloc o) := (Below.refl _ _).alloc h _

theorem rmade_two (l : List SurfC) (zs : List Int) (a b : Option Addr) (m d n c : Nat) (w : World) (h : RR SurfR 22 (fun b => b < w.heap.size) w a m d l) (hm : m ≤ 1000000) (hz : IR w.heap.size w 3 b n c zs) (hn : n ≤ 1000000) :
    Calls Tryz.prog 83 #[.slice a m d, .slice b n c] w (fun e w' => ∃ (v : Value) (r : Bool), e = .returned (.tuple #[v, .bool r]) ∧ Below w.heap.size w w') := by
  refine (rmade_any l zs a b m d n c w h hm hz hn).mono ?_
  rintro e w' (⟨_, rfl, hb⟩ | ⟨_, v, _, rfl, _, hb⟩)
  · exact ⟨_, _, rfl, hb⟩
  · exact ⟨_, _, rfl, hb⟩

/-- a list of changes appended to an empty one just made -/
theorem app_fresh {ops : Array Oper} {rest : List Oper} {o : Oper} {a : Act} {Q : Exit → Act → World → Prop} {w : World} {B e0 : Nat} (hgd : o.guard = none) (s x : Operand) (ho : o.op = .call { callee := .builtin .append, args := #[s, x], argTypes := #[134, 134] })
    (hs : a.eval s = .slice (some ⟨e0, 0, none⟩) 0 0) (he : w.heap[e0]? = some (.cells #[] 102 (0, 0))) (hB : B ≤ e0) {S : Nat → Prop} {ca : Option Addr} {cn cc : Nat} {zs : List Int} (hx : a.eval x = .slice ca cn cc) (hir : IRp S w 3 ca cn cc zs) (hcc : ca = none → cc = 0) (hcn : cn ≤ 4)
    (h : ∀ v' w', w'.ownsRow B 102 3 v' cn (zs.map (Value.int .i64)) → Below B w w' → KeptOn (fun b => b < w.heap.size ∧ b ≠ e0) w w' → wpList Tryz.prog ops Q rest (a.put o.dst v') w') : wpList Tryz.prog ops Q (o :: rest) a w := by
  have hlt := lt_of_block he
  have hown : w.ownsRow B 102 3 (.slice (some ⟨e0, 0, none⟩) 0 0) 0 (([] : List Int).map (Value.int .i64)) := ⟨by simp, .inr ⟨e0, 0, #[], rfl, hB, he, Nat.le_refl _, by unfold maxLen; omega, rfl, by simp⟩⟩
  refine wpList_append_irs Tryz.underlying134 Tryz.infoChange3 rfl (by omega) (by omega) hgd s x ho B _ 0 [] hs hown S ca cn cc zs hx hir hcc (by omega) (by omega) ?_
  intro v' w' h1 h2
  rw [Nat.zero_add] at h1
  exact h v' w' h1 ((Below.refl B w).grown h2 (by omega) (fun k hk => by simp [Value.ownBlock] at hk; omega)) ((keptOn_grown h2).mono (fun b hb => ⟨hb.1, by simp [Value.ownBlock]; exact fun e => hb.2 e.symm⟩))

/-- one change appended -/
theorem app_one {ops : Array Oper} {rest : List Oper} {o : Oper} {a : Act} {Q : Exit → Act → World → Prop} {w : World} {B g : Nat} (hgd : o.guard = none) (s x : Operand) (ho : o.op = .call { callee := .builtin .append, args := #[s, x], argTypes := #[134, 134] })
    {v : Value} {cn : Nat} {zs : List Int} (hs : a.eval s = v) (hown : w.ownsRow B 102 3 v cn (zs.map (Value.int .i64))) (hx : a.eval x = .slice (some ⟨g, 0, none⟩) 1 1) {q0 q1 q2 : Int} (hg : w.heap[g]? = some (.cells #[.int .i64 q0, .int .i64 q1, .int .i64 q2] 102 (0, 0))) (hcn : cn ≤ 4) (hB : B ≤ w.heap.size)
    (h : ∀ v' w', w'.ownsRow B 102 3 v' (cn + 1) ((zs ++ [q0, q1, q2]).map (Value.int .i64)) → Below B w w' → wpList Tryz.prog ops Q rest (a.put o.dst v') w') : wpList Tryz.prog ops Q (o :: rest) a w := by
  refine wpList_append_irs Tryz.underlying134 Tryz.infoChange3 rfl (by omega) (by omega) hgd s x ho B v cn zs hs hown (fun _ => True) _ 1 1 [q0, q1, q2] hx (irp_blk hg trivial rfl rfl) (fun e => by cases e) (by omega) hB ?_
  intro v' w' h1 h2
  exact h v' w' h1 ((Below.refl B w).grown h2 hB (fun k hk => (hown.lt k hk).1))

set_option maxRecDepth 100000 in
set_option maxHeartbeats 6400000 in
theorem dconf_any (x : DrL) (s f v k : Ptr) (l : List SurfC) (sa : Option Addr) (m sc : Nat) (w : World) (hk : RR PutsR 1 (fun b => b < w.heap.size) w k.a k.n k.c x.puts) (hs : RR SurfR 22 (fun b => b < w.heap.size) w sa m sc l) (hm : 1 ≤ m) (hm2 : m ≤ 1000000) :
    Calls Tryz.prog 51 #[drlV x s f v k, .slice sa m sc] w (RetCfg w) := by
  obtain ⟨ka, n, kc⟩ := k
  have Hk := Lib.hid hk; have Hs := Lib.hid hs; clear hk hs
  have hm0 : ((m : Int) == 0) = false := by simp; omega
  have hg0 := DrLB.new w x s f v ⟨ka, n, kc⟩
  have hb0 := (Below.refl w.heap.size w).alloc (Nat.le_refl _) (.cells (cellsDL x s f v ⟨ka, n, kc⟩).toArray 31)
  have Hg0 := Lib.hid hg0; have Hb0 := Lib.hid hb0; clear hg0 hb0
  go_enter Tryz.func51, Tryz.ntmps51
  go_upto_region 1 with fail
  refine step_world (fun wx => DrLB wx w.heap.size x s f v ⟨ka, n, kc⟩ ∧ Below w.heap.size w wx) ⟨Hg0.out, Hb0.out⟩ ?_
  clear Hg0 Hb0
  rintro w1 ⟨hg, hb⟩
  have hl := hg.lt
  have Hg := Lib.hid hg; have Hb1 := Lib.hid hb; clear hg hb
  go_wp2_with fail
  go_loopw [5, 6] (fun ov iv wr => ∃ (i : Nat) (cf : List ConfC), i ≤ 2 ∧ cf.length = i ∧ iv = .int .i64 (i : Int) ∧ OwnR ConfR 2 136 (w.heap.size + 1) wr ov cf ∧ DrLB wr w.heap.size x s f v ⟨ka, n, kc⟩ ∧ Below w.heap.size w wr) (fun _ iv _ => 2 - (intOf iv).toNat)
  case atStart => exact ⟨0, [], by omega, rfl, rfl, OwnR.nil _ _ _ _ _, Hg.out, Hb1.out⟩
  case round =>
    clear Hg Hb1 hl
    obtain ⟨i, cf, hi, hcf, rfl, ho, hg, hb⟩ := hrel
    obtain ⟨-, -, -, -, -, -, -, -, c8⟩ := hg.cells
    have hl := hg.lt
    have Ho := Lib.hid ho; have Hg := Lib.hid hg; have Hb := Lib.hid hb; have Hcf := Lib.hid hcf
    clear ho hg hb hcf
    by_cases hin : i < n ∧ i < 2
    · obtain ⟨hin, hi2⟩ := hin
      obtain ⟨wo, rfl⟩ : ∃ wo : World, wo = wr := ⟨_, rfl⟩
      obtain ⟨bk, ko, ps, pcs, e1, hlk, -, ⟨pa, pn, pc, rfl, hps⟩, hpr⟩ := (Hk.out.kept putsOk (keptOn_below Hb.out) (fun b h => h)).at hin
      try simp only at e1
      subst e1
      have p0 := hpr 0 _ rfl
      rw [Nat.add_zero, Nat.mul_one] at p0
      have P0 := Lib.hid p0; have Hps := Lib.hid hps
      have hlkw : bk < wo.heap.size := Nat.lt_of_lt_of_le hlk Hb.out.size
      clear p0 hps hpr
      go_upto_region 5 with fail
      go_cut [7] (fun v7 wx => v7 = .pointer (some ⟨wo.heap.size + 1, 0, none⟩) ∧ ∃ nm : ByteArray, nm.size ≤ 9223372036854775807 ∧ wx.heap[wo.heap.size + 1]? = some (.cells #[.string nm, .slice none 0 0] 136 (0, 0)) ∧ Below wo.heap.size wo wx)
      case first =>
        have hi01 : i = 0 ∨ i = 1 := by omega
        rcases hi01 with rfl | rfl
        · go_wp2
          go_meet
          refine ⟨rfl, nearN, by decide, ?_, below_al (below_al (Below.refl _ _))⟩
          have h := heap_alloc_new (wo.alloc (.cells #[.string nearN, .string farNm] 9)) (.cells #[.string nearN, .slice none 0 0] 136)
          rw [size_alloc] at h
          exact h
        · go_wp2
          go_meet
          refine ⟨rfl, farNm, by decide, ?_, below_al (below_al (Below.refl _ _))⟩
          have h := heap_alloc_new (wo.alloc (.cells #[.string nearN, .string farNm] 9)) (.cells #[.string farNm, .slice none 0 0] 136)
          rw [size_alloc] at h
          exact h
      case rest =>
        obtain ⟨rfl, nm, hnm, h7, hb7⟩ := hcut
        have hl7 := lt_of_block h7
        have H7 := Lib.hid h7; have Hb7 := Lib.hid hb7; have Hnm := Lib.hid hnm
        clear h7 hb7 hnm c8
        go_wp2_with fail
        go_loopw [8] (fun jv wr => ∃ (j : Nat) (ca : Option Addr) (cn cc : Nat) (zs : List Int), j ≤ 4 ∧ cn ≤ j ∧ jv = .int .i64 (j : Int) ∧ wr.heap[wo.heap.size + 1]? = some (.cells #[.string nm, .slice ca cn cc] 136 (0, 0)) ∧ IRp (fun b => wo.heap.size + 1 < b ∧ b < wr.heap.size) wr 3 ca cn cc zs ∧ (ca = none → cc = 0) ∧ Below wo.heap.size wo wr) (fun jv _ => 4 - (intOf jv).toNat)
        case atStart => exact ⟨0, none, 0, 0, [], by omega, by omega, rfl, H7.out, IRp.nil _ _ _ _ _, fun _ => rfl, Hb7.out⟩
        case round =>
          clear H7 Hb7 hl7
          obtain ⟨j, ca, cn, cc, zs, hj, hcn, rfl, h7, hir, hcc, hb7⟩ := hrel
          have hl7 := lt_of_block h7
          have c8 := ((Hg.out.go hb7).cells).2.2.2.2.2.2.2.2
          have p0 := (hb7.cell (p := ⟨bk, ko + i, none⟩) hlkw).trans P0.out
          have hlr : w.heap.size < wr.heap.size := Nat.lt_of_lt_of_le hl hb7.size
          have hlkr : bk < wr.heap.size := Nat.lt_of_lt_of_le hlkw hb7.size
          have hbo := hb7.size
          have d0 := (obj_cell h7 0).trans rfl
          have d1 := (obj_cell h7 1).trans rfl
          have H7 := Lib.hid h7; have Hir := Lib.hid hir; have Hcc := Lib.hid hcc; have Hb7 := Lib.hid hb7
          clear h7 hir hcc hb7
          by_cases hjp : j < pn ∧ j < 4
          · obtain ⟨hjp, hj4⟩ := hjp
            obtain ⟨bp, po, q, qcs, e1, hlp, -, ⟨rfl, hq0, hq1, hq2⟩, hqr⟩ := (Hps.out.kept putOk ((keptOn_below Hb7.out).mono (fun b h => Nat.lt_of_lt_of_le h Hb.out.size)) (fun b h => h)).at hjp
            subst e1
            have x0 := hqr 0 _ rfl; have x1 := hqr 1 _ rfl; have x2 := hqr 2 _ rfl
            rw [Nat.add_zero] at x0
            have hlpr : bp < wr.heap.size := Nat.lt_of_lt_of_le hlp (by have := Hb.out.size; omega)
            obtain ⟨qs, qp, qv⟩ := q
            unfold u8In at hq0 hq1; unfold i16In at hq2
            simp only at x0 x1 x2 hq0 hq1 hq2
            clear hqr
            obtain ⟨wq, rfl⟩ : ∃ wq : World, wq = wr := ⟨_, rfl⟩
            have hnew := heap_alloc_new wq (.cells #[.int .u8 qs, .int .u8 qp, .int .i16 qv] 168)
            have hbn := (Below.refl wq.heap.size wq).alloc (Nat.le_refl _) (.cells #[.int .u8 qs, .int .u8 qp, .int .i16 qv] 168)
            have Hnew := Lib.hid hnew; have Hbn := Lib.hid hbn; clear hnew hbn
            go_upto_region 10 with fail
            refine step_world (fun wx => wx.heap[wq.heap.size]? = some (.cells #[.int .u8 qs, .int .u8 qp, .int .i16 qv] 168 (0, 0)) ∧ Below wq.heap.size wq wx) ⟨Hnew.out, Hbn.out⟩ ?_
            clear Hnew Hbn x0 x1 x2 c8 p0 d0 d1
            rintro wd ⟨h9, hb9⟩
            have hl9 := lt_of_block h9
            have x0 := (obj_cell h9 0).trans rfl
            have x1 := (obj_cell h9 1).trans rfl
            have x2 := (obj_cell h9 2).trans rfl
            have h7 := (hb9.block _ hl7).trans H7.out
            have d1 := (obj_cell h7 1).trans rfl
            have hl7d := lt_of_block h7
            have Hir9 := Lib.hid (Hir.out.kept ((keptOn_below hb9).mono (fun b h => h.2)) (fun b h => (⟨h.1, Nat.lt_of_lt_of_le h.2 hb9.size⟩ : wo.heap.size + 1 < b ∧ b < wd.heap.size)))
            have H7d := Lib.hid h7; have Hb9 := Lib.hid hb9; have Hb79 := Lib.hid ((Hb7.out).trans (hb9.mono Hb7.out.size))
            have hir0 := Hir
            clear h9 h7 hb9 H7 Hir
            have hmz : ¬ m = 0 := by omega
            have u0 : IntKind.i64.wrap qs = qs := IntWalk.i64_in _ (by omega)
            have u1 : IntKind.i64.wrap qp = qp := IntWalk.i64_in _ (by omega)
            have u2 : IntKind.i64.wrap (1 + qp.tmod 17) = 1 + qp.tmod 17 := IntWalk.i64_in _ (by have := tmod_u8 hq1.1 17 (by omega); omega)
            have u3 : IntKind.i64.wrap qv = qv := IntWalk.i64_in _ (by omega)
            have u4 : IntKind.i64.wrap (1000 * qv) = 1000 * qv := IntWalk.i64_in _ (by omega)
            refine wp_region_reads (wd.heap.size) [1, 2, 4, 5, 6, 7, 8, 9, 10, 11, 12, 13, 14, 15, 16, 17, 18, 19] 5 (by kernel_rfl) rfl (by kernel_rfl) (by kernel_rfl) (fun _ _ o _ _ h => by cases o <;> exact h) ?_
            iterate 18
              refine wpRd_yield (v := ?_) rfl (by rfl) ?_ ?_
              rotate_left
              · intro y hy
                have z0 := (hy.cell (p := ⟨wq.heap.size, 0, none⟩) hl9).trans x0
                have z1 := (hy.cell (p := ⟨wq.heap.size, 1, none⟩) hl9).trans x1
                have z2 := (hy.cell (p := ⟨wq.heap.size, 2, none⟩) hl9).trans x2
                have z3 := (hy.cell (p := ⟨wo.heap.size + 1, 1, none⟩) hl7d).trans d1
                go_simp
                with_reducible rfl
              try simp only [Act.put, List.setIfInBounds_toArray, List.set_cons_zero, List.set_cons_succ]
            refine wpRd_nil ?_
            clear x0 x1 x2 d1
            have Hhc := Lib.hid Hcc.out
            refine wpR_twoL (i := 0) (j := 20) (by kernel_rfl) rfl rfl rfl rfl (fun K hK => ?_) (fun K hK => ?_)
            · refine wpList_lit rfl (.slice (some ⟨wd.drew.heap.size, 0, none⟩) 0 0) (.cells #[] 102) (by go_simp) ?_
              refine hK _ _ (bel_alloc (w := wd.drew) (Nat.le_refl wd.heap.size)) ?_
              clear hK K
              try simp only [Act.put, List.setIfInBounds_toArray, List.set_cons_zero, List.set_cons_succ]
              have he := heap_alloc_new wd.drew (.cells #[] 102)
              have hbe : Below wd.heap.size wd (wd.drew.alloc (.cells #[] 102)) := below_al (below_dr (Below.refl _ _))
              have hze : (wd.drew.alloc (.cells #[] 102)).heap.size = wd.heap.size + 1 := by simp
              generalize wd.drew.alloc (.cells #[] 102) = wE at *
              refine wpR_twoL (i := 3) (j := 20) (by kernel_rfl) rfl rfl rfl rfl (fun K hK => ?_) (fun K hK => ?_)
              · refine app_fresh rfl (.tmp 51) (.tmp 53) rfl (e0 := wd.heap.size) rfl he (Nat.le_refl _) rfl (Hir9.out.kept (keptOn_below hbe |>.mono (fun b h => h.2)) (fun b h => h)) Hhc.out (by omega) ?_
                intro v5 w5 hown hb5 hk5
                refine hK _ _ hb5 ?_
                clear hK K
                try simp only [Act.put, List.setIfInBounds_toArray, List.set_cons_zero, List.set_cons_succ]
                have hb5' := hbe.trans hb5
                refine wpR_oneL (i := 20) (by kernel_rfl) rfl rfl (fun K hK => ?_)
                refine wpList_lit rfl (.slice (some ⟨w5.heap.size, 0, none⟩) 1 1) (.cells #[.int .i64 (qs.tmod m), .int .i64 (1 + qp.tmod 17), .int .i64 (1000 * qv)] 102) (by go_simp) ?_
                refine hK _ _ (bel_alloc (w := w5) hb5'.size) ?_
                clear hK K
                try simp only [Act.put, List.setIfInBounds_toArray, List.set_cons_zero, List.set_cons_succ]
                have hg := heap_alloc_new w5 (.cells #[.int .i64 (qs.tmod m), .int .i64 (1 + qp.tmod 17), .int .i64 (1000 * qv)] 102)
                have hbg := hb5'.alloc hb5'.size (.cells #[.int .i64 (qs.tmod m), .int .i64 (1 + qp.tmod 17), .int .i64 (1000 * qv)] 102)
                refine wpR_oneL (i := 21) (by kernel_rfl) rfl rfl (fun K hK => ?_)
                refine app_one rfl (.tmp 54) (.tmp 71) rfl rfl (hown.alloc _) rfl hg (by omega) hbg.size ?_
                intro v6 w6 hown6 hb6
                refine hK _ _ hb6 ?_
                clear hK K
                try simp only [Act.put, List.setIfInBounds_toArray, List.set_cons_zero, List.set_cons_succ]
                have Hown6 := Lib.hid hown6; have Hb6 := Lib.hid (hbg.trans hb6)
                clear hown hb5 hk5 hb5' hg hbg hown6 hb6 he hbe hze
                refine wpR_one (i := 22) (by kernel_rfl) rfl rfl (fun K hK => ?_)
                go_simp
                refine hK _ _ (Below.refl _ _) ?_
                clear hK K
                refine wpR_end (by kernel_rfl) ?_
                obtain ⟨ca6, cc6, rfl, hcc6, hir6⟩ := own_irp Hown6.out
                have Hcc6 := Lib.hid hcc6; have Hir6 := Lib.hid hir6; clear hcc6 hir6 Hown6
                have h76 := (Hb6.out.block _ hl7d).trans H7d.out
                have hl76 := lt_of_block h76
                have H76 := Lib.hid h76
                have hwo6 := Lib.hid (Hb79.out.trans (Hb6.out.mono Hb79.out.size))
                have hs6 := Lib.hid hwo6.out.size
                have hs9 := Lib.hid Hb9.out.size
                clear h76 H7d Hir9 Hb79
                go_upto_if 79 with ((with_reducible refine (rmade_two l _ sa ca6 m sc (cn + 1) cc6 _ (Hs.out.go surfOk (below_chain Hb.out hwo6.out)) hm2 (Hir6.out.ir (fun _ h => h.2)) (by omega)).mono ?_); rintro e w7 ⟨v7, r7, rfl, hb7⟩; have Hb7' := Lib.hid hb7; clear hb7)
                have h77 := (Hb7'.out.block _ hl76).trans H76.out
                have k71 := (obj_cell h77 1).trans rfl
                have f71 : w7.frozen? ⟨wo.heap.size + 1, 1, none⟩ = false := by rw [World.frozen?, h77]; rfl
                have H77 := Lib.hid h77; clear h77 H76
                have hwo7 := Lib.hid (hwo6.out.trans (Hb7'.out.mono hs6.out))
                cases r7
                · go_wp2_with fail
                  go_roundw
                  case rel => exact ⟨j + 1, ca, cn, cc, zs, by omega, by omega, by go_num, H77.out, hir0.out.kept ((keptOn_below (Hb9.out.trans (Hb6.out.mono hs9.out) |>.trans (Hb7'.out.mono (Nat.le_trans hs9.out Hb6.out.size)))).mono (fun b h => h.2)) (fun b h => ⟨h.1, Nat.lt_of_lt_of_le h.2 (Nat.le_trans hs9.out (Nat.le_trans Hb6.out.size Hb7'.out.size))⟩), Hcc.out, hwo7.out⟩
                  case measure => simp [intOf]; omega
                · go_wp2_with fail
                  go_roundw
                  case rel => exact ⟨j + 1, ca6, cn + 1, cc6, _, by omega, by omega, by go_num, obj_setCell H77.out 1 _, Hir6.out.kept (((keptOn_below Hb7'.out).mono (fun b h => h.2)).trans ((keptOn_setCells (wo.heap.size + 1) [_] 1 w7).mono (fun b h => by have := hs9.out; have := h.1; omega))) (fun b h => ⟨by have := hs9.out; have := h.1; omega, by (show b < ((w7.setCell ⟨wo.heap.size + 1, 1, none⟩ _).heap.size)); simp; exact Nat.lt_of_lt_of_le h.2 Hb7'.out.size⟩), Hcc6.out, hwo7.out.setCell (p := ⟨wo.heap.size + 1, 1, none⟩) (Nat.le_succ _) _⟩
                  case measure => simp [intOf]; omega
              · refine wpList_lit rfl (.slice (some ⟨wE.heap.size, 0, none⟩) 1 1) (.cells #[.int .i64 (qs.tmod m), .int .i64 (1 + qp.tmod 17), .int .i64 (1000 * qv)] 102) (by go_simp) ?_
                refine hK _ _ (bel_alloc (w := wE) hbe.size) ?_
                clear hK K
                try simp only [Act.put, List.setIfInBounds_toArray, List.set_cons_zero, List.set_cons_succ]
                have hg := heap_alloc_new wE (.cells #[.int .i64 (qs.tmod m), .int .i64 (1 + qp.tmod 17), .int .i64 (1000 * qv)] 102)
                have hbg := hbe.alloc hbe.size (.cells #[.int .i64 (qs.tmod m), .int .i64 (1 + qp.tmod 17), .int .i64 (1000 * qv)] 102)
                have he' := (Below.heap_alloc wE (.cells #[.int .i64 (qs.tmod m), .int .i64 (1 + qp.tmod 17), .int .i64 (1000 * qv)] 102) _ (lt_of_block he)).trans he
                have hzg : (wE.alloc (.cells #[.int .i64 (qs.tmod m), .int .i64 (1 + qp.tmod 17), .int .i64 (1000 * qv)] 102)).heap.size = wE.heap.size + 1 := by simp
                generalize wE.alloc (.cells #[.int .i64 (qs.tmod m), .int .i64 (1 + qp.tmod 17), .int .i64 (1000 * qv)] 102) = wG at *
                refine wpR_oneL (i := 3) (by kernel_rfl) rfl rfl (fun K hK => ?_)
                refine app_fresh rfl (.tmp 51) (.tmp 53) rfl (e0 := wd.heap.size) rfl he' (Nat.le_refl _) rfl (Hir9.out.kept (keptOn_below hbg |>.mono (fun b h => h.2)) (fun b h => h)) Hhc.out (by omega) ?_
                intro v5 w5 hown hb5 hk5
                refine hK _ _ hb5 ?_
                clear hK K
                try simp only [Act.put, List.setIfInBounds_toArray, List.set_cons_zero, List.set_cons_succ]
                have hb5' := hbg.trans hb5
                have hg5 := (hk5 wE.heap.size ⟨by omega, by omega⟩).trans hg
                refine wpR_oneL (i := 21) (by kernel_rfl) rfl rfl (fun K hK => ?_)
                refine app_one rfl (.tmp 54) (.tmp 71) rfl rfl hown rfl hg5 (by omega) hb5'.size ?_
                intro v6 w6 hown6 hb6
                refine hK _ _ hb6 ?_
                clear hK K
                try simp only [Act.put, List.setIfInBounds_toArray, List.set_cons_zero, List.set_cons_succ]
                have Hown6 := Lib.hid hown6; have Hb6 := Lib.hid (hb5'.trans hb6)
                clear hown hb5 hk5 hb5' hg hbg hown6 hb6 he hbe hze hzg he' hg5
                refine wpR_one (i := 22) (by kernel_rfl) rfl rfl (fun K hK => ?_)
                go_simp
                refine hK _ _ (Below.refl _ _) ?_
                clear hK K
                refine wpR_end (by kernel_rfl) ?_
                obtain ⟨ca6, cc6, rfl, hcc6, hir6⟩ := own_irp Hown6.out
                have Hcc6 := Lib.hid hcc6; have Hir6 := Lib.hid hir6; clear hcc6 hir6 Hown6
                have h76 := (Hb6.out.block _ hl7d).trans H7d.out
                have hl76 := lt_of_block h76
                have H76 := Lib.hid h76
                have hwo6 := Lib.hid (Hb79.out.trans (Hb6.out.mono Hb79.out.size))
                have hs6 := Lib.hid hwo6.out.size
                have hs9 := Lib.hid Hb9.out.size
                clear h76 H7d Hir9 Hb79
                go_upto_if 79 with ((with_reducible refine (rmade_two l _ sa ca6 m sc (cn + 1) cc6 _ (Hs.out.go surfOk (below_chain Hb.out hwo6.out)) hm2 (Hir6.out.ir (fun _ h => h.2)) (by omega)).mono ?_); rintro e w7 ⟨v7, r7, rfl, hb7⟩; have Hb7' := Lib.hid hb7; clear hb7)
                have h77 := (Hb7'.out.block _ hl76).trans H76.out
                have k71 := (obj_cell h77 1).trans rfl
                have f71 : w7.frozen? ⟨wo.heap.size + 1, 1, none⟩ = false := by rw [World.frozen?, h77]; rfl
                have H77 := Lib.hid h77; clear h77 H76
                have hwo7 := Lib.hid (hwo6.out.trans (Hb7'.out.mono hs6.out))
                cases r7
                · go_wp2_with fail
                  go_roundw
                  case rel => exact ⟨j + 1, ca, cn, cc, zs, by omega, by omega, by go_num, H77.out, hir0.out.kept ((keptOn_below (Hb9.out.trans (Hb6.out.mono hs9.out) |>.trans (Hb7'.out.mono (Nat.le_trans hs9.out Hb6.out.size)))).mono (fun b h => h.2)) (fun b h => ⟨h.1, Nat.lt_of_lt_of_le h.2 (Nat.le_trans hs9.out (Nat.le_trans Hb6.out.size Hb7'.out.size))⟩), Hcc.out, hwo7.out⟩
                  case measure => simp [intOf]; omega
                · go_wp2_with fail
                  go_roundw
                  case rel => exact ⟨j + 1, ca6, cn + 1, cc6, _, by omega, by omega, by go_num, obj_setCell H77.out 1 _, Hir6.out.kept (((keptOn_below Hb7'.out).mono (fun b h => h.2)).trans ((keptOn_setCells (wo.heap.size + 1) [_] 1 w7).mono (fun b h => by have := hs9.out; have := h.1; omega))) (fun b h => ⟨by have := hs9.out; have := h.1; omega, by (show b < ((w7.setCell ⟨wo.heap.size + 1, 1, none⟩ _).heap.size)); simp; exact Nat.lt_of_lt_of_le h.2 Hb7'.out.size⟩), Hcc6.out, hwo7.out.setCell (p := ⟨wo.heap.size + 1, 1, none⟩) (Nat.le_succ _) _⟩
                  case measure => simp [intOf]; omega
            · refine wpList_lit rfl (.slice (some ⟨wd.drew.heap.size, 0, none⟩) 1 1) (.cells #[.int .i64 (qs.tmod m), .int .i64 (1 + qp.tmod 17), .int .i64 (1000 * qv)] 102) (by go_simp) ?_
              refine hK _ _ (bel_alloc (w := wd.drew) (Nat.le_refl wd.heap.size)) ?_
              clear hK K
              try simp only [Act.put, List.setIfInBounds_toArray, List.set_cons_zero, List.set_cons_succ]
              have hg := heap_alloc_new wd.drew (.cells #[.int .i64 (qs.tmod m), .int .i64 (1 + qp.tmod 17), .int .i64 (1000 * qv)] 102)
              have hbg : Below wd.heap.size wd (wd.drew.alloc (.cells #[.int .i64 (qs.tmod m), .int .i64 (1 + qp.tmod 17), .int .i64 (1000 * qv)] 102)) := below_al (below_dr (Below.refl _ _))
              have hzg : (wd.drew.alloc (.cells #[.int .i64 (qs.tmod m), .int .i64 (1 + qp.tmod 17), .int .i64 (1000 * qv)] 102)).heap.size = wd.heap.size + 1 := by simp
              generalize wd.drew.alloc (.cells #[.int .i64 (qs.tmod m), .int .i64 (1 + qp.tmod 17), .int .i64 (1000 * qv)] 102) = wG at *
              refine wpR_oneL (i := 0) (by kernel_rfl) rfl rfl (fun K hK => ?_)
              refine wpList_lit rfl (.slice (some ⟨wG.heap.size, 0, none⟩) 0 0) (.cells #[] 102) (by go_simp) ?_
              refine hK _ _ (bel_alloc (w := wG) hbg.size) ?_
              clear hK K
              try simp only [Act.put, List.setIfInBounds_toArray, List.set_cons_zero, List.set_cons_succ]
              have he := heap_alloc_new wG (.cells #[] 102)
              have hbe := hbg.alloc hbg.size (.cells #[] 102)
              have hg' := (Below.heap_alloc wG (.cells #[] 102) _ (lt_of_block hg)).trans hg
              have hze : (wG.alloc (.cells #[] 102)).heap.size = wG.heap.size + 1 := by simp
              generalize wG.alloc (.cells #[] 102) = wE at *
              refine wpR_oneL (i := 3) (by kernel_rfl) rfl rfl (fun K hK => ?_)
              refine app_fresh rfl (.tmp 51) (.tmp 53) rfl (e0 := wG.heap.size) rfl he hbg.size rfl (Hir9.out.kept (keptOn_below hbe |>.mono (fun b h => h.2)) (fun b h => h)) Hhc.out (by omega) ?_
              intro v5 w5 hown hb5 hk5
              refine hK _ _ hb5 ?_
              clear hK K
              try simp only [Act.put, List.setIfInBounds_toArray, List.set_cons_zero, List.set_cons_succ]
              have hb5' := hbe.trans hb5
              have hg5 := (hk5 wd.drew.heap.size ⟨by (show wd.heap.size < _); omega, by (show wd.heap.size ≠ _); omega⟩).trans hg'
              refine wpR_oneL (i := 21) (by kernel_rfl) rfl rfl (fun K hK => ?_)
              refine app_one rfl (.tmp 54) (.tmp 71) rfl rfl hown rfl hg5 (by omega) hb5'.size ?_
              intro v6 w6 hown6 hb6
              refine hK _ _ hb6 ?_
              clear hK K
              try simp only [Act.put, List.setIfInBounds_toArray, List.set_cons_zero, List.set_cons_succ]
              have Hown6 := Lib.hid hown6; have Hb6 := Lib.hid (hb5'.trans hb6)
              clear hown hb5 hk5 hb5' hg hbg hown6 hb6 he hbe hze hzg hg' hg5
              refine wpR_one (i := 22) (by kernel_rfl) rfl rfl (fun K hK => ?_)
              go_simp
              refine hK _ _ (Below.refl _ _) ?_
              clear hK K
              refine wpR_end (by kernel_rfl) ?_
              obtain ⟨ca6, cc6, rfl, hcc6, hir6⟩ := own_irp Hown6.out
              have Hcc6 := Lib.hid hcc6; have Hir6 := Lib.hid hir6; clear hcc6 hir6 Hown6
              have h76 := (Hb6.out.block _ hl7d).trans H7d.out
              have hl76 := lt_of_block h76
              have H76 := Lib.hid h76
              have hwo6 := Lib.hid (Hb79.out.trans (Hb6.out.mono Hb79.out.size))
              have hs6 := Lib.hid hwo6.out.size
              have hs9 := Lib.hid Hb9.out.size
              clear h76 H7d Hir9 Hb79
              go_upto_if 79 with ((with_reducible refine (rmade_two l _ sa ca6 m sc (cn + 1) cc6 _ (Hs.out.go surfOk (below_chain Hb.out hwo6.out)) hm2 (Hir6.out.ir (fun _ h => h.2)) (by omega)).mono ?_); rintro e w7 ⟨v7, r7, rfl, hb7⟩; have Hb7' := Lib.hid hb7; clear hb7)
              have h77 := (Hb7'.out.block _ hl76).trans H76.out
              have k71 := (obj_cell h77 1).trans rfl
              have f71 : w7.frozen? ⟨wo.heap.size + 1, 1, none⟩ = false := by rw [World.frozen?, h77]; rfl
              have H77 := Lib.hid h77; clear h77 H76
              have hwo7 := Lib.hid (hwo6.out.trans (Hb7'.out.mono hs6.out))
              cases r7
              · go_wp2_with fail
                go_roundw
                case rel => exact ⟨j + 1, ca, cn, cc, zs, by omega, by omega, by go_num, H77.out, hir0.out.kept ((keptOn_below (Hb9.out.trans (Hb6.out.mono hs9.out) |>.trans (Hb7'.out.mono (Nat.le_trans hs9.out Hb6.out.size)))).mono (fun b h => h.2)) (fun b h => ⟨h.1, Nat.lt_of_lt_of_le h.2 (Nat.le_trans hs9.out (Nat.le_trans Hb6.out.size Hb7'.out.size))⟩), Hcc.out, hwo7.out⟩
                case measure => simp [intOf]; omega
              · go_wp2_with fail
                go_roundw
                case rel => exact ⟨j + 1, ca6, cn + 1, cc6, _, by omega, by omega, by go_num, obj_setCell H77.out 1 _, Hir6.out.kept (((keptOn_below Hb7'.out).mono (fun b h => h.2)).trans ((keptOn_setCells (wo.heap.size + 1) [_] 1 w7).mono (fun b h => by have := hs9.out; have := h.1; omega))) (fun b h => ⟨by have := hs9.out; have := h.1; omega, by (show b < ((w7.setCell ⟨wo.heap.size + 1, 1, none⟩ _).heap.size)); simp; exact Nat.lt_of_lt_of_le h.2 Hb7'.out.size⟩), Hcc6.out, hwo7.out.setCell (p := ⟨wo.heap.size + 1, 1, none⟩) (Nat.le_succ _) _⟩
                case measure => simp [intOf]; omega
          · have hx : ¬ j < pn ∨ (j < pn ∧ ¬ j < 4) := by omega
            clear hjp
            rcases hx with hx | ⟨hx, hx4⟩
            all_goals
              go_wp2_with (refine wpList_append_rec confOk Tryz.underlying46 Tryz.infoConfig3 rfl (by omega) (by omega) rfl (.tmp 82) (.tmp 84) rfl (w.heap.size + 1) wr _ cf ⟨nm, zs⟩ [.string nm, .slice ca cn cc] rfl (Ho.out.go confOk Hb7.out) rfl rfl ⟨ca, cn, cc, rfl, Hir.out.kept (KeptOn.refl _ _) (fun b h => ⟨by omega, h.2, Ho.out.fresh (by omega)⟩), by omega, Hcc.out, Hnm.out⟩ (by rw [Hcf.out]; omega) (by omega) ?_; intro g3 cap3 w8 ho3 hb4; have Ho3 := Lib.hid ho3; have Hb4 := Lib.hid hb4; clear ho3 hb4)
              go_roundw
              case rel => exact ⟨i + 1, cf ++ [⟨nm, zs⟩], by omega, by rw [List.length_append, Hcf.out]; rfl, by go_num, by have q := Ho3.out; exact (by simpa using q), ((Hb4.out _ _ (Nat.le_refl _) (Hb7.out.mono (by omega))).block _ (Nat.lt_succ_self _)).trans Hg.out, Hb4.out _ _ (Nat.le_succ _) (below_chain Hb.out Hb7.out)⟩
              case measure => simp [intOf]; omega
    · have hx : ¬ i < n ∨ (i < n ∧ ¬ i < 2) := by omega
      clear hin
      obtain ⟨oa, oc, rfl⟩ : ∃ oa oc, u5 = .slice oa i oc := by
        rcases Ho.out.form with ⟨e, e2⟩ | ⟨g, cap, e, -⟩
        · exact ⟨none, 0, by rw [e]; have := Hcf.out; rw [e2] at this; cases this; rfl⟩
        · exact ⟨_, _, by rw [e, Hcf.out]⟩
      rcases hx with hx | ⟨hx, hx4⟩
      all_goals
        go_wp2
        go_ret
        exact ⟨oa, i, oc, cf, rfl, (Ho.out.rr2 confOk).kept confOk (KeptOn.refl _ _) (fun b h => ⟨by omega, h.2⟩), by omega, Hb.out⟩

end Go.Proofs.YthommhfppeonpaaGreatDoor

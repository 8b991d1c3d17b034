import Derived.Test.YtlnbjinneegciaaGreatDoorOAH
import Derived.LaidMore
import Derived.Stop.Joined
namespace Go.Proofs.YtlnbjinneegciaaGreatDoor
set_option linter.all false
set_option maxRecDepth 100000
set_option maxHeartbeats 3200000
open Go.Proofs.Tryz Go.RowKit Go.ChangeShapes Go.WideShapes Go.ChangeAt Go.WideElems Go.Maps
def uM(l:List gM):Bool:=l.any fun x=>!tr x
def wV{α:Type}{f:α->Bool}{l:List α}{k:Nat}{x:α}(h:l[k]? =some x)(h0:(l.take k).any f=false):(l.take (k+1)).any f=f x:=by
 rw[mn h,eo,h0];simp
def yI{α:Type}{f:α->Bool}{l:List α}{k:Nat}{x:α}(h:l[k]? =some x)(h0:f x=true):l.any f=true:=cw.2 ⟨x,aL h,h0⟩
def Ka(l:List gM)(a:Option Addr)(n c:Nat)(w:World)(h:RR jE 22 (fun b=>b<w.heap.size) w a n c l)(t:n<=1000000):
 Calls prog 166 #[Z a n c,.func (.func 121) #[] #[]] w (Jl w (uM l)):=by
 have H:=O h;clear h;have d:=H.out.1;go_enter func166,ntmps166;go_wp2
 go_loopw [8] (fun m wr=>∃k:Nat,k<=n/\m=.int .i64 (k:Int)/\(l.take k).any (fun x=>!tr x)=false/\Below w w wr) (fun m _=>n-(intOf m).toNat)
 case atStart=>exact⟨0,aA _,rfl,rfl,TH _ _⟩
 case round=>
  obtain⟨k,s,rfl,o:HQ _,Hb:HQ _⟩:=hrel;by_cases q:k<n
  .obtain⟨b,off,x,cs,rfl,hlt,p:HQ _,⟨a2,n2,c2,rfl,hz,hn2,hc2,Hg2:HQ _⟩,Hr:HQ _⟩:=(H.out.go iD Hb.out).at q
   have r:=O (hz.ir (fun _ h=>h));clear hz hc2;cases hv:tr x
   all_goals
    have i:=O hv;clear hv
    go_wp2_with(first
     |(refine lw Hr.out rfl (.tmp 14) rfl rfl ?_)
     |((with_reducible refine(Pk x _ n2 c2 _ r.out hn2 Hg2.out).mono ?_);rintro e u ⟨j,g⟩;rw[i.out]at j;simp only[gf,fT]at j;subst j))
   .go_ret
    refine⟨(k:Int),rfl,?_,I Hb.out g⟩;unfold uM;rw[yI (f:=fun x=>!tr x) p.out (by rw[i.out];rfl)];simp
   .go_roundw
    case rel=>exact⟨k+1,by omega,by go_num,(wV p.out o.out).trans (by rw[i.out];rfl),I Hb.out g⟩
    case measure=>simp[intOf];omega
  .obtain rfl:k=n:=by omega
   go_wp2;go_ret;refine⟨-1,rfl,?_,Hb.out⟩;have h1:=o.out;rw[<- d,bf]at h1;unfold uM;rw[h1];rfl
def su(l:List gM)(a:Option Addr)(n c:Nat)(w:World)(h:RR jE 22 (fun b=>b<w.heap.size) w a n c l)(i:n<=1000000):
 Calls prog 123 #[Z a n c,.func (.func 121) #[] #[]] w (iZ w (.bool (uM l))):=by
 go_enter func123,ntmps123;go_wp2_with fail;refine(Ka l a n c _ h i).mono ?_;rintro e j ⟨r,rfl,d,g⟩;by_cases h0:0<=r
 .rw[aP h0]at d
  have f:=O d;clear d;go_wp2;go_ret;exact⟨by rw[<- f.out];rfl,g⟩
 .rw[aw h0]at d
  have f:=O d;clear d;have h1:decide (0<=r)=false:=aw h0;go_wp2;go_ret;exact⟨by rw[<- f.out];rfl,g⟩
def oK(zs:List Int)(n:Nat)(s p:Int):Bool:=(List.range n).any fun k=>(zs.getD (k*3) 0==s)&& (zs.getD (k*3+1) 0==p)
def Kb(s p v a p0:Int)(g:Nat)(w:World)(h0:w.cell? (J g)=some (.int .i64 a))(h1:w.cell? ⟨g,1,none⟩=some (.int .i64 p0))(b:g<w.heap.size):
 Calls prog 169 #[.agg #[s,p,v],U g] w (iZ w (.bool ((s==a)&& (p==p0)))):=by
 cases q1:(s==a) <;>cases q2:(p==p0)
 all_goals
  go_enter func169,ntmps169;go_wp2;go_ret;exact⟨rfl,gY (TH _ _)⟩
def lL{f:Nat->Bool}{k:Nat}(h:(List.range k).any f=false):(List.range (k+1)).any f=f k:=by
 rw[bV,eo,h];simp
def lM{f:Nat->Bool}{n k:Nat}(a:k<n)(h:f k=true):(List.range n).any f=true:=cw.2 ⟨k,aJ.2 a,h⟩
def Eo(zs:List Int)(a:Option Addr)(n c:Nat)(d p0:Int)(g:Nat)(w:World)(h:IR w w 3 a n c zs)(y:n<=1000000)(h0:w.cell? (J g)=some (.int .i64 d))(h1:w.cell? ⟨g,1,none⟩=some (.int .i64 p0))(j:g<w.heap.size):
 Calls prog 202 #[Z a n c,.func (.func 169) #[] #[U g]] w (Jl w (oK zs n d p0)):=by
 have H:=O h;have s:=O h0;have t:=O h1;clear h h0 h1;go_enter func202,ntmps202;go_wp2
 go_loopw [8] (fun l wr=>∃k:Nat,k<=n/\l=.int .i64 (k:Int)/\oK zs k d p0=false/\Below w w wr) (fun l _=>n-(intOf l).toNat)
 case atStart=>exact⟨0,aA _,rfl,rfl,TH _ _⟩
 case round=>
  obtain⟨k,x,rfl,o:HQ _,Hb:HQ _⟩:=hrel;by_cases i:k<n
  .obtain⟨b,off,rfl,hlt,A,x1,x2⟩:=(H.out.go Hb.out).at3 i
   have hf:∀v,((zs.getD (k*3) 0==d)&& (zs.getD (k*3+1) 0==p0))=v->(fun k=>(zs.getD (k*3) 0==d)&& (zs.getD (k*3+1) 0==p0)) k=v:=fun v h=>h
   have m:=O (lL o.out);have c0:=O ((Hb.out.cell (p:=J g) j).trans s.out);have c1:=O ((Hb.out.cell (p:=⟨g,1,none⟩) j).trans t.out);cases hv:((zs.getD (k*3) 0==d)&& (zs.getD (k*3+1) 0==p0))
   all_goals
    have q:=O hv;have u:=O (hf _ hv);clear hv hf;generalize zs.getD (k*3) 0=y0 at*;generalize zs.getD (k*3+1) 0=y1 at*;generalize zs.getD (k*3+2) 0=y2 at*
    go_wp2_with((with_reducible refine(Kb y0 y1 y2 d p0 g _ c0.out c1.out (ab j Hb.out.size)).mono ?_);rintro e z ⟨r,f⟩;rw[q.out]at r;subst r)
   .go_roundw
    case rel=>exact⟨k+1,by omega,by go_num,m.out.trans q.out,I Hb.out f⟩
    case measure=>simp[intOf];omega
   .go_ret
    refine⟨(k:Int),rfl,?_,I Hb.out f⟩;unfold oK;rw[lM i u.out];simp
  .obtain rfl:k=n:=by omega
   go_wp2;go_ret;exact⟨-1,rfl,by rw[o.out];rfl,Hb.out⟩
def tK(zs:List Int)(a:Option Addr)(n c:Nat)(i p0:Int)(g:Nat)(w:World)(h:IR w w 3 a n c zs)(o:n<=1000000)(h0:w.cell? (J g)=some (.int .i64 i))(h1:w.cell? ⟨g,1,none⟩=some (.int .i64 p0))(m:g<w.heap.size):
 Calls prog 170 #[Z a n c,.func (.func 169) #[] #[U g]] w (iZ w (.bool (oK zs n i p0))):=by
 have k:=O h0;have l:=O h1;clear h0 h1;go_enter func170,ntmps170;go_wp2_with fail;refine(Eo zs a n c i p0 g _ h o k.out l.out m).mono ?_;rintro e p ⟨r,rfl,b,j⟩;by_cases d:0<=r
 .rw[aP d]at b
  have f:=O b;clear b;go_wp2;go_ret;exact⟨by rw[<- f.out];rfl,j⟩
 .rw[aw d]at b
  have f:=O b;clear b;have h1:decide (0<=r)=false:=aw d;go_wp2;go_ret;exact⟨by rw[<- f.out];rfl,j⟩
def nZ(k:Int):List Int:=if k=1 then[1,2,5,6,7,8,10]else if k=2 then[1,2,3,4,10]else if k=3 then[11,12,13,14,15]else if k=4 then[1,10]else[]
def jY(N:Nat)(w:World):Prop:=
 ∃r,w.cell? (J 11)=some (.map (some r))/\11<N/\r<N/\ ∃d b,w.heap[r]? =some (.map d b)/\
  ∀k:Int,1<=k->k<=4-> ∃i a n c,Instr.findNow (.int .i64) (.int .i64 k) d.toList 0=some (some (i,.slice a n c))/\IR N w 1 a n c (nZ k)
def jY.below{N:Nat}{w w':World}(h:jY N w)(d:Below N w w'):jY N w':=by
 obtain⟨r,h0,e,g,j,b,h1,h2⟩:=h;refine⟨r,(d.cell (p:=J 11) e).trans h0,e,g,j,b,(d.block r g).trans h1,fun k m f=>?_⟩;obtain⟨i,a,n,c,h3,l⟩:=h2 k m f;exact⟨i,a,n,c,h3,l.below d (aa _)⟩
def jY.mono{N M:Nat}{w:World}(h:jY N w)(g:N<=M):jY M w:=by
 obtain⟨r,h0,l,m,e,b,h1,h2⟩:=h;refine⟨r,h0,by omega,by omega,e,b,h1,fun k j d=>?_⟩;obtain⟨i,a,n,c,h3,f⟩:=h2 k j d;exact⟨i,a,n,c,h3,f.mono g⟩
def jY.go{w w':World}(h:jY w w)(a:Below w w w'):jY w' w':=(h.below a).mono a.size
def tL{P:Program}{t kt e:TypeId}(h:P.underlying t=some (.map kt e))(d:P.underlying kt=some (.int .i64)){w:World}{r i:Nat}{k:Int}{v:Value}{c:Array MapEntry}{a:Nat}(g:w.heap[r]? =some (.map c a))(hf:Instr.findNow (.int .i64) (.int .i64 k) c.toList 0=some (some (i,v))):
 (Instr.lookup t (.map (some r)) (.int .i64 k) false).run P w=.ok v w:=by
 have f:∀b,(Instr.checkKey b 10000 kt (.int .i64 k)).run P w=.ok () w:=fun b=>by
  rw[show(10000:Nat)=9999+1 from rfl,Instr.checkKey,bR,bQ d];rfl
 simp[Instr.lookup,Instr.findKey,bR,bQ h,bQ d,MapKept.run_getObj_map g,f,hf]
def IR.sl{N:Nat}{w:World}{a:Option Addr}{n c:Nat}{zs:List Int}(h:IR N w 1 a n c zs):SL N w a n c zs:=
 ⟨by rw[h.1,dn],h.2.1,fun b=>by have:=h.2.2 b;rwa[dn]at this⟩
def Kc{f:Int->Bool}{zs:List Int}{k:Nat}(h:k<zs.length)(h0:(zs.take k).any f=false)(v:Bool)(a:f (zs.getD k 0)=v):(zs.take (k+1)).any f=v:=(Ee h h0).trans a
def Kd(zs:List Int)(a:Option Addr)(n c:Nat)(v:Int)(w:World)(h:SL w w a n c zs)(t:n<=1000000):
 Calls prog 252 #[Z a n c,v] w (Jl w (zs.any fun z=>v==z)):=by
 have d:=O (h.len);have q:=O h;clear h;go_enter func252,ntmps252;go_wp2
 go_loopw [8] (fun i wr=>∃k:Nat,k<=n/\i=.int .i64 (k:Int)/\((zs.take k).any fun z=>v==z)=false/\Below w w wr) (fun i _=>n-(intOf i).toNat)
 case atStart=>exact⟨0,aA _,rfl,rfl,TH _ _⟩
 case round=>
  obtain⟨k,s,rfl,l:HQ _,Hb:HQ _⟩:=hrel;by_cases e:k<n
  .obtain⟨b,off,rfl,hlt,o⟩:=(q.go Hb).at (by omega)
   have c0:=o k e;clear o;have g:=Kc (f:=fun z=>v==z) (k:=k) (by rw[<- d];exact e) l;have j:=O g;clear g;cases hv:(v==zs.getD k 0)
   all_goals
    have m:=O (j _ hv);clear j;generalize zs.getD k 0=z at*;go_wp2
   .go_roundw
    case rel=>exact⟨k+1,by omega,by go_num,m,Hb⟩
    case measure=>simp[intOf];omega
   .go_ret
    refine⟨(k:Int),rfl,?_,Hb⟩;rw[aP (by omega)]
    symm
    obtain⟨x,r,p⟩:=cw.1 m;exact cw.2 ⟨x,List.mem_of_mem_take r,p⟩
  .obtain rfl:k=n:=by omega
   go_wp2;go_ret;refine⟨-1,rfl,?_,Hb⟩;have h1:=l.out;rw[d,bf]at h1;rw[h1];rfl
def CX(zs:List Int)(a:Option Addr)(n c:Nat)(v:Int)(w:World)(i:SL w w a n c zs)(h:n<=1000000):
 Calls prog 251 #[Z a n c,v] w (iZ w (.bool (zs.any fun z=>v==z))):=by
 go_enter func251,ntmps251;go_wp2_with fail;refine(Kd zs a n c v _ i h).mono ?_;rintro e j ⟨r,rfl,b,g⟩;by_cases d:0<=r
 .rw[aP d]at b
  have f:=O b;clear b;go_wp2;go_ret;exact⟨by rw[<- f];rfl,g⟩
 .rw[aw d]at b
  have f:=O b;clear b;have h1:decide (0<=r)=false:=aw d;go_wp2;go_ret;exact⟨by rw[<- f];rfl,g⟩
def A3(k:Int):(nZ k).length<=7:=by unfold nZ;split;decide;split;decide;split;decide;split<;>decide
def Pl(r:Nat)(k v:Int)(w:World)(p:jY w w)(g:w.cell? (J 11)=some (.map (some r)))(h1:1<=k)(j:k<=4):
 Calls prog 248 #[.map (some r),k,v] w (iZ w (.bool ((nZ k).any fun z=>v==z))):=by
 obtain⟨t,h0,_,hlt,q,d,b,f⟩:=p;rw[g]at h0;cases h0;obtain⟨i,a,n,c,hf,hi⟩:=f k h1 j;have s:=tL underlying316 underlying3 b hf
 have o:n<=1000000:=by have:=A3 k;have:=hi.1;omega
 have h:=O hi.sl;clear b f hf hi g;go_enter func248,ntmps248
 go_wp2_with((with_reducible refine(CX (nZ k) a n c v _ h.out o).mono ?_);rintro e u ⟨m,l⟩;subst m)
 go_ret;exact⟨rfl,l⟩
def tt(s:gW)(p:Int):Bool:=if p=16\/p=17 then !(s.order==0)else(p==9)||(nZ s.kind).any fun z=>p==z
def Ep(s:gW)(p:Int)(a:Option Addr)(n c:Nat)(w:World)(b:jY w w)(h1:1<=s.kind)(y:s.kind<=4):
 Calls prog 240 #[.agg (⟨s,a,n,c⟩:jt),p] w (iZ w (.bool (tt s p))):=by
 have m:=O (Y.new w s a n c);have l:=(TH w w).alloc (aa _) (.cells (⟨s,a,n,c⟩:jt) 64);have o:=O l;have f:=O (b.go l);clear l b;go_enter func240,ntmps240;go_upto_region 1 with fail;refine gI (fun h=>Y h w s a n c/\Below w w h/\jY h h) ⟨m,o,f⟩ ?_;clear m o f;rintro E ⟨u,v,b⟩;obtain⟨r,h0,_⟩:=id b;obtain⟨k0,_,_,_,_,_,_,_,_,_,_,B,_⟩:=u.cells;have j:=O v;have f:=O b;clear v b u;by_cases g:p=16\/p=17
 .have d:tt s p=!(s.order==0):=by unfold tt;rw[aq g]
  have k:=O d;clear d
  obtain rfl|rfl:=g
  all_goals
   go_wp2;go_ret;exact⟨by rw[k];rfl,j⟩
 .have d:tt s p=((p==9)||(nZ s.kind).any fun z=>p==z):=by unfold tt;rw[aj g]
  have k:=O d;clear d
  have C:(p==16)=false:=by simp;omega
  have D:(p==17)=false:=by simp;omega
  have x:=O h0;clear g;cases q:(p==9)
  all_goals
   have Q:=O q
   go_wp2_with((with_reducible refine(Pl r s.kind p _ f.out x.out h1 y).mono ?_);rintro e F ⟨A,i⟩;subst A;have t:=O i;clear i)
   go_ret;rw[k,Q]
  .exact⟨rfl,I j t⟩
  .exact⟨rfl,j⟩
def vJ{w:World}{a:Addr}{v:Value}(h:w.cell? a=some v):a=⟨a.block,a.off,none⟩/\a.block<w.heap.size:=by
 unfold World.cell? at h;split at h
 .rename_i c _ _ hb
  split at h
  .cases h
  .rename_i hs
   refine⟨?_,TK hb⟩;obtain⟨b,o,s⟩:=a
   cases s with
   |none=>rfl
   |some s=>simp at hs
 .cases h
def Qe:prog.globalNamed "monocle/surface.places" =some 11:=by kernel_rfl
def Qf:(prog.globals[11]?).map (·.type)=some 316:=by kernel_rfl
def Mv{P:Program}{e:TypeId}{v:Value}{a:Option Addr}{n c:Nat}{d:TypeId}(f:P.underlying e=some (.slice d))(hf:v.formed P e=true)(b:v.cells.toList=[.slice a n c]):v=.slice a n c:=by
 cases v<;>simp_all [Value.formed,Value.cells]
def OV{P:Program}{k:TypeId}(b:P.underlying k=some (.int .i64)){v:Value}{l:Lit}(h:keyOf P k v=some l):MapKept.IsKey (.int .i64) v:=by
 rw[keyOf_int b]at h;obtain⟨d,a,h1,_⟩:=mapKey_isKey h;rw[b]at a;cases a;exact h1
def Gh{H:Type}:∀{xs ys:List Int},(lits (H:=H) .i64 xs)=lits .i64 ys->xs=ys
 |[],[],_=>rfl
 |[],_::_,h=>by cases h
 |_::_,[],h=>by cases h
 |x::xs,y::ys,h=>by
  unfold lits at h;simp only[aN,ei,DataW.lit.injEq,Lit.int.injEq,true_and]at h;obtain⟨rfl,h2⟩:=h;have:=Gh (H:=H) (xs:=xs) (ys:=ys) h2;rw[this]
def D2{a b:Value}{w w':World}(h:(Result.ok a w:Result Value)=.ok b w'):a=b:=by cases h;rfl
def Bt{W:World}{C:List (String×DataW Unit)}(h:laidMet prog (("monocle/surface.places",Rows.laid_monocle_surface_places)::C) W):jY W W:=by
 obtain⟨ps,⟨g0,t0,a7,f0,p0,q0,E,a1,a2,S,_,_⟩,_,_⟩:=h;obtain rfl:=aE (Qe.symm.trans E);obtain rfl:=aE (Qf.symm.trans a1)
 have zero:(zeroValue 133).run prog W=.ok (.slice none 0 0) W:=by kernel_rfl
 obtain ⟨_,f⟩|⟨L,K,p,m,_,R,t,_,F,f⟩:=WideElems.open_map underlying316 S
 .cases f
 simp only[dK]at f
 have e:W.cell? (J 11)=some (.map (some L)):=by
  have:=World.var?_cell E a2 0;rw[Array.eq_one_of_toList R]at this;simpa using this
 have N:=(vJ e).2;refine⟨L,e,N,TK t,K,p,t,?_⟩
 have d:∀k:Int,(Lit.int .i64 k).wf=true-> ∀zs:List Int,(Rows.laid_monocle_surface_places (H:=Unit)).atKey (.int .i64 k) .nil=.slice (lits .i64 zs) []-> ∃i a n c,Instr.findNow (.int .i64) (.int .i64 k) K.toList 0=some (some (i,.slice a n c))/\IR W W 1 a n c zs:=by
  intro k a3 zs g;have o:=keyOf_int_mk (P:=prog) underlying3 a3
  obtain ⟨_,_,hat⟩|⟨e0,y,z,T,A,s,hat,_⟩:=fit_look (w:=W) false (int_keyed underlying3) underlying316 zero t F o
  .have:=hat .nil
   rw[<- f.1,g]at this;cases this
  .have r:=hat .nil
   rw[<- f.1,g]at r
   rcases MapKept.findNow_spec (OV underlying3 o) K.toList 0 (fun x f=>by
    obtain⟨l,hl⟩:=F.keys x f
    exact OV underlying3 hl)with⟨_,a0⟩|⟨j,e1,hf,_,a9⟩
   .exact absurd T (a0 e0 z)
   .have q:=tL underlying316 underlying3 t hf
    have hv:e1.val=e0.val:=by
     have:=q.symm.trans A;simp only[bC,de]at this;exact D2 this
    unfold elemAt at s;split at s
    .rename_i hform
     obtain ⟨_,rfl⟩|⟨a,len,cap,xs,u,_,X,_,a4,rfl,b,_⟩:=open_ints underlying133 underlying3 (by kernel_rfl) s
     .cases r
     .have B:=Mv underlying133 hform u
      simp only[DataW.slice.injEq]at r;have h1:=Gh r.1
      have h2:xs.drop len=[]:=by
       have:=r.2;unfold lits at this;exact List.map_eq_nil_iff.1 this.symm
      have a5:xs=zs:=by
       have:=cA len xs;rw[h2,bG]at this;exact this.symm.trans h1.symm
      subst a5
      have v:xs.length=len:=by
       have ha:xs.length<=len:=by
        rw[List.drop_eq_nil_iff]at h2;exact h2
       have a8:len<=xs.length:=by rw[a4];split<;>omega
       omega
      refine⟨0+j,some a,len,cap,by rw[hf,hv,B],by rw[v,dn],X,fun a6=>?_⟩;have D:=b 0 (by omega)
      have Q:a.add 0=a:=by simp[Addr.add]
      rw[Q]at D;obtain⟨M,hlt⟩:=vJ D;refine⟨a.block,a.off,by rw[<- M],hlt,fun j hj=>?_⟩;have:=b j (by omega);rw[M,fC]at this;exact this
    .cases s
 intro k h1 h4
 have hk:k=1\/k=2\/k=3\/k=4:=by omega
 obtain rfl|rfl|rfl|rfl:=hk
 .exact d 1 rfl [1,2,5,6,7,8,10] rfl
 .exact d 2 rfl [1,2,3,4,10] rfl
 .exact d 3 rfl [11,12,13,14,15] rfl
 .exact d 4 rfl [1,10] rfl
def gW.get(s:gW)(p:Int):Int:=if p=1 then s.t8 else if p=2 then s.r9 else if p=3 then s.i5 else if p=4 then s.cm else if p=5 then s.a0 else if p=6 then s.a1 else if p=7 then s.a2 else if p=8 then s.a3 else if p=9 then s.tx else if p=10 then s.i6 else if p=11 then s.dx else if p=12 then s.dy else if p=13 then s.ax else if p=14 then s.ay else if p=15 then s.az else if p=16 then s.p0 else if p=17 then s.p1 else 0
def gW.put(s:gW)(p v:Int):gW:=if p=1 then{s with t8:=v} else if p=2 then{s with r9:=v} else if p=3 then{s with i5:=v} else if p=4 then{s with cm:=v} else if p=5 then{s with a0:=v} else if p=6 then{s with a1:=v} else if p=7 then{s with a2:=v} else if p=8 then{s with a3:=v} else if p=9 then{s with tx:=v} else if p=10 then{s with i6:=v} else if p=11 then{s with dx:=v} else if p=12 then{s with dy:=v} else if p=13 then{s with ax:=v} else if p=14 then{s with ay:=v} else if p=15 then{s with az:=v} else if p=16 then{s with p0:=v} else if p=17 then{s with p1:=v} else s
def mi(p:Int):Nat:=if p=1 then 1 else if p=2 then 2 else if p=3 then 3 else if p=4 then 4 else if p=5 then 5 else if p=6 then 6 else if p=7 then 7 else if p=8 then 8 else if p=9 then 12 else if p=10 then 14 else if p=11 then 16 else if p=12 then 17 else if p=13 then 18 else if p=14 then 19 else if p=15 then 20 else if p=16 then 9 else if p=17 then 10 else 0
def oL{p:Int}(h1:1<=p)(h2:p<=17):p=1\/p=2\/p=3\/p=4\/p=5\/p=6\/p=7\/p=8\/p=9\/p=10\/p=11\/p=12\/p=13\/p=14\/p=15\/p=16\/p=17:=by omega
def Y.put{w:World}{g:Nat}{s:gW}{a:Option Addr}{n c:Nat}(h:Y w g s a n c){p:Int}(h1:1<=p)(h2:p<=17)(v:Int):Y (w.setCell ⟨g,mi p,none⟩ (.int .i64 v)) g (s.put p v) a n c:=by
 have k:=gG h (mi p) (.int .i64 v);unfold Y;rw[k]
 obtain rfl|rfl|rfl|rfl|rfl|rfl|rfl|rfl|rfl|rfl|rfl|rfl|rfl|rfl|rfl|rfl|rfl:=oL h1 h2<;>rfl
def Y.getP{w:World}{g:Nat}{s:gW}{a:Option Addr}{n c:Nat}(h:Y w g s a n c){p:Int}(h1:1<=p)(h2:p<=17):w.cell? ⟨g,mi p,none⟩=some (.int .i64 (s.get p)):=by
 obtain⟨k0,k1,t,u,v,x,y,z,A,B,b,d,e,f,i,j,k,l,m,o,q,r⟩:=h.cells
 obtain rfl|rfl|rfl|rfl|rfl|rfl|rfl|rfl|rfl|rfl|rfl|rfl|rfl|rfl|rfl|rfl|rfl:=oL h1 h2<;>assumption
def oM{s:gW}{p:Int}(h:tt s p=true):1<=p/\p<=17:=by
 unfold tt nZ at h
 repeat' split at h
 all_goals simp at h;omega
def vT{s:gW}{zs:List Int}{n:Nat}(h:oA s zs n=true):1<=s.kind/\s.kind<=4:=by
 have h1:uX s zs n=true:=by unfold oA at h;simp at h;exact h.1
 have h2:=an.1 h1 0 (by simp);unfold pC rK at h2;simp[jr]at h2;omega
def nj(s:gW)(zs:List Int)(n:Nat)(p:Int):Int:=if oA s zs n=true then(if tt s p=true then 0 else 2)else 110
def xO(s:gW)(zs:List Int)(p:Int)(a:Option Addr)(n c:Nat)(w:World)(t:IR w w 3 a n c zs)(q:n<=1000000)(o:s.e9.size<=9223372036854775807)(r:jY w w):
 Calls prog 226 #[.agg (⟨s,a,n,c⟩:jt),p] w (iZ w (.int .i64 (nj s zs n p))):=by
 have j:=O (Y.new w s a n c);have d:=(TH w w).alloc (aa _) (.cells (⟨s,a,n,c⟩:jt) 64);have m:=O (t.go d);have u:=O (r.go d);have i:=O d;clear t r d;go_enter func226,ntmps226
 cases ho:oA s zs n with
 |false=>
  have g:=O ho;clear ho
  go_wp2_with(first
   |(refine gO j rfl (.tmp 2) rfl rfl ?_)
   |((with_reducible refine(nC s zs a n c _ m.out q o).mono ?_);rintro e y ⟨b,h⟩;rw[g]at b;unfold err at b;simp only[de,bC]at b;subst b))
  go_ret;exact⟨by(unfold nj;rw[aj (by rw[g];simp)];rfl),I i h⟩
 |true=>
  obtain⟨v,x⟩:=vT ho;have g:=O ho;clear ho;cases hh:tt s p
  all_goals
   have l:=O hh;clear hh
   go_wp2_with(first
    |(refine gO j rfl (.tmp 2) rfl rfl ?_)
    |(refine gO (Y.go j f (by simp)) rfl (.tmp 2) rfl rfl ?_)
    |((with_reducible refine(nC s zs a n c _ m.out q o).mono ?_);rintro e y ⟨b,h⟩;rw[g]at b;unfold err at b;simp only[bX]at b;subst b;have f:=O h;clear h)
    |((with_reducible refine(Ep s p a n c _ (u.out.go f.out) v x).mono ?_);rintro e z ⟨b,k:HQ _⟩;rw[l]at b;subst b))
   go_ret;refine⟨?_,I i (I f k)⟩;unfold nj;rw[aq g.out,l];rfl
def vl(s:gW)(zs:List Int)(n:Nat)(p:Int):Bool:=oA s zs n&&tt s p
def MN(s:gW)(zs:List Int)(p:Int)(a:Option Addr)(n c:Nat)(w:World)(t:IR w w 3 a n c zs)(q:n<=1000000)(o:s.e9.size<=9223372036854775807)(r:jY w w):
 Calls prog 225 #[.agg (⟨s,a,n,c⟩:jt),p] w (iZ w (.bool (vl s zs n p))):=by
 have j:=O (Y.new w s a n c);have d:=(TH w w).alloc (aa _) (.cells (⟨s,a,n,c⟩:jt) 64);have m:=O (t.go d);have u:=O (r.go d);have i:=O d;clear t r d;go_enter func225,ntmps225
 cases ho:oA s zs n with
 |false=>
  have g:=O ho;clear ho
  go_wp2_with(first
   |(refine gO j rfl (.tmp 2) rfl rfl ?_)
   |((with_reducible refine(nC s zs a n c _ m.out q o).mono ?_);rintro e y ⟨b,h⟩;rw[g]at b;unfold err at b;simp only[de,bC]at b;subst b))
  go_ret;exact⟨by unfold vl;rw[g];rfl,I i h⟩
 |true=>
  obtain⟨v,x⟩:=vT ho;have g:=O ho;clear ho;cases hh:tt s p
  all_goals
   have l:=O hh;clear hh
   go_wp2_with(first
    |(refine gO j rfl (.tmp 2) rfl rfl ?_)
    |(refine zj (Y.go j f (by simp)) (by rfl) (.tmp 2) rfl rfl ?_)
    |((with_reducible refine(nC s zs a n c _ m.out q o).mono ?_);rintro e y ⟨b,h⟩;rw[g]at b;unfold err at b;simp only[bX]at b;subst b;have f:=O h;clear h)
    |((with_reducible refine(Ep s p a n c _ (u.out.go f.out) v x).mono ?_);rintro e z ⟨b,k:HQ _⟩;rw[l]at b;subst b))
   go_ret;refine⟨?_,I i (I f k)⟩;unfold vl;rw[g,l];rfl
def Ke(h a v2 i j k l m n o b c d e f g:Value)(w:World):(Instr.index 307 (Value.agg #[h,a,v2,i,j,k,l,m,n,o,b,c,d,e,f,g]) (Value.int IntKind.i64 1)).run prog w=Result.ok a w:=by kernel_rfl
def Kf(g h v2 i j k l m n o a b c d e f:Value)(w:World):(Instr.index 307 (Value.agg #[g,h,v2,i,j,k,l,m,n,o,a,b,c,d,e,f]) (Value.int IntKind.i64 2)).run prog w=Result.ok v2 w:=by kernel_rfl
def Kh(h i v2 g j k l m n o a b c d e f:Value)(w:World):(Instr.index 307 (Value.agg #[h,i,v2,g,j,k,l,m,n,o,a,b,c,d,e,f]) (Value.int IntKind.i64 3)).run prog w=Result.ok g w:=by kernel_rfl
def Ki(h i v2 j g k l m n o a b c d e f:Value)(w:World):(Instr.index 307 (Value.agg #[h,i,v2,j,g,k,l,m,n,o,a,b,c,d,e,f]) (Value.int IntKind.i64 4)).run prog w=Result.ok g w:=by kernel_rfl
def Kj(h i v2 j k l m n o g a b c d e f:Value)(w:World):(Instr.index 307 (Value.agg #[h,i,v2,j,k,l,m,n,o,g,a,b,c,d,e,f]) (Value.int IntKind.i64 9)).run prog w=Result.ok g w:=by kernel_rfl
def GB(g h v2 i j k l m n o a b c d e f:Value)(w:World):(Instr.index 307 (Value.agg #[g,h,v2,i,j,k,l,m,n,o,a,b,c,d,e,f]) (Value.int IntKind.i64 10)).run prog w=Result.ok a w:=by kernel_rfl
def GC(g h v2 i j k l m n o b a c d e f:Value)(w:World):(Instr.index 307 (Value.agg #[g,h,v2,i,j,k,l,m,n,o,b,a,c,d,e,f]) (Value.int IntKind.i64 11)).run prog w=Result.ok a w:=by kernel_rfl
def GD(g h v2 i j k l m n o b c a d e f:Value)(w:World):(Instr.index 307 (Value.agg #[g,h,v2,i,j,k,l,m,n,o,b,c,a,d,e,f]) (Value.int IntKind.i64 12)).run prog w=Result.ok a w:=by kernel_rfl
def GE(g h v2 i j k l m n o b c d a e f:Value)(w:World):(Instr.index 307 (Value.agg #[g,h,v2,i,j,k,l,m,n,o,b,c,d,a,e,f]) (Value.int IntKind.i64 13)).run prog w=Result.ok a w:=by kernel_rfl
def GF(g h v2 i j k l m n o b c d e a f:Value)(w:World):(Instr.index 307 (Value.agg #[g,h,v2,i,j,k,l,m,n,o,b,c,d,e,a,f]) (Value.int IntKind.i64 14)).run prog w=Result.ok a w:=by kernel_rfl
def GG(g h v2 i j k l m n o b c d e f a:Value)(w:World):(Instr.index 307 (Value.agg #[g,h,v2,i,j,k,l,m,n,o,b,c,d,e,f,a]) (Value.int IntKind.i64 15)).run prog w=Result.ok a w:=by kernel_rfl
def Kk(g:Nat)(p:Int)(w:World)(h1:1<=p)(h2:p<=17):
 Calls prog 227 #[U g,p] w (iZ w (.pointer (some ⟨g,mi p,none⟩))):=by
 obtain rfl|rfl|rfl|rfl|rfl|rfl|rfl|rfl|rfl|rfl|rfl|rfl|rfl|rfl|rfl|rfl|rfl:=oL h1 h2
 .have r:=fun(h i v2 j k l m n o q a b c d e f:Value)(w:World)=>Ke h i v2 j k l m n o q a b c d e f w
  go_enter func227,ntmps227;go_wp2_with fail
  go_quiet (fail)
  go_wp2;go_ret;exact⟨rfl,gV (TH _ _) _⟩
 .have r:=fun(h i v2 j k l m n o q a b c d e f:Value)(w:World)=>Kf h i v2 j k l m n o q a b c d e f w
  go_enter func227,ntmps227;go_wp2_with fail
  go_quiet (fail)
  go_wp2;go_ret;exact⟨rfl,gV (TH _ _) _⟩
 .have r:=fun(h i v2 j k l m n o q a b c d e f:Value)(w:World)=>Kh h i v2 j k l m n o q a b c d e f w
  go_enter func227,ntmps227;go_wp2_with fail
  go_quiet (fail)
  go_wp2;go_ret;exact⟨rfl,gV (TH _ _) _⟩
 .have r:=fun(h i v2 j k l m n o q a b c d e f:Value)(w:World)=>Ki h i v2 j k l m n o q a b c d e f w
  go_enter func227,ntmps227;go_wp2_with fail
  go_quiet (fail)
  go_wp2;go_ret;exact⟨rfl,gV (TH _ _) _⟩
 .go_enter func227,ntmps227
  go_wp2;go_ret;exact⟨rfl,TH _ _⟩
 .go_enter func227,ntmps227
  go_wp2;go_ret;exact⟨rfl,TH _ _⟩
 .go_enter func227,ntmps227
  go_wp2;go_ret;exact⟨rfl,TH _ _⟩
 .go_enter func227,ntmps227
  go_wp2;go_ret;exact⟨rfl,TH _ _⟩
 .have r:=fun(h i v2 j k l m n o q a b c d e f:Value)(w:World)=>Kj h i v2 j k l m n o q a b c d e f w
  go_enter func227,ntmps227;go_wp2_with fail
  go_quiet (fail)
  go_wp2;go_ret;exact⟨rfl,gV (TH _ _) _⟩
 .have r:=fun(h i v2 j k l m n o q a b c d e f:Value)(w:World)=>GB h i v2 j k l m n o q a b c d e f w
  go_enter func227,ntmps227;go_wp2_with fail
  go_quiet (fail)
  go_wp2;go_ret;exact⟨rfl,gV (TH _ _) _⟩
 .have r:=fun(h i v2 j k l m n o q a b c d e f:Value)(w:World)=>GC h i v2 j k l m n o q a b c d e f w
  go_enter func227,ntmps227;go_wp2_with fail
  go_quiet (fail)
  go_wp2;go_ret;exact⟨rfl,gV (TH _ _) _⟩
 .have r:=fun(h i v2 j k l m n o q a b c d e f:Value)(w:World)=>GD h i v2 j k l m n o q a b c d e f w
  go_enter func227,ntmps227;go_wp2_with fail
  go_quiet (fail)
  go_wp2;go_ret;exact⟨rfl,gV (TH _ _) _⟩
 .have r:=fun(h i v2 j k l m n o q a b c d e f:Value)(w:World)=>GE h i v2 j k l m n o q a b c d e f w
  go_enter func227,ntmps227;go_wp2_with fail
  go_quiet (fail)
  go_wp2;go_ret;exact⟨rfl,gV (TH _ _) _⟩
 .have r:=fun(h i v2 j k l m n o q a b c d e f:Value)(w:World)=>GF h i v2 j k l m n o q a b c d e f w
  go_enter func227,ntmps227;go_wp2_with fail
  go_quiet (fail)
  go_wp2;go_ret;exact⟨rfl,gV (TH _ _) _⟩
 .have r:=fun(h i v2 j k l m n o q a b c d e f:Value)(w:World)=>GG h i v2 j k l m n o q a b c d e f w
  go_enter func227,ntmps227;go_wp2_with fail
  go_quiet (fail)
  go_wp2;go_ret;exact⟨rfl,gV (TH _ _) _⟩
 .go_enter func227,ntmps227
  go_wp2;go_ret;exact⟨rfl,TH _ _⟩
 .go_enter func227,ntmps227
  go_wp2;go_ret;exact⟨rfl,TH _ _⟩
def vm{s:gW}{zs:List Int}{n:Nat}{p:Int}(h:nj s zs n p=0):oA s zs n=true/\tt s p=true:=by
 unfold nj at h;split at h
 .split at h
  .exact⟨by assumption,by assumption⟩
  .cases h
 .cases h
def mw(s:gW)(zs:List Int)(n:Nat)(p v:Int):Int:=if nj s zs n p=0 then(if oA (s.put p v) zs n=true then 0 else 2)else nj s zs n p
def QM(w:World)(s:gW)(zs:List Int)(n:Nat)(p v:Int)(e:Ending)(w':World):Prop:=
 (mw s zs n p v≠0/\e=.returned (.tuple #[.agg zS,.int .i64 (mw s zs n p v)])/\Below w w w')\/
 (mw s zs n p v=0/\ ∃a c,e=.returned (.tuple #[.agg #[.int .i64 (s.put p v).kind,.int .i64 (s.put p v).t8,.int .i64 (s.put p v).r9,.int .i64 (s.put p v).i5,.int .i64 (s.put p v).cm,.int .i64 (s.put p v).a0,.int .i64 (s.put p v).a1,.int .i64 (s.put p v).a2,.int .i64 (s.put p v).a3,.int .i64 (s.put p v).p0,.int .i64 (s.put p v).p1,.int .i64 (s.put p v).order,.int .i64 (s.put p v).tx,.string (s.put p v).e9,.int .i64 (s.put p v).i6,.int .i64 (s.put p v).i7,.int .i64 (s.put p v).dx,.int .i64 (s.put p v).dy,.int .i64 (s.put p v).ax,.int .i64 (s.put p v).ay,.int .i64 (s.put p v).az,Z a n c],oZ])/\IRp (fun b=>w.heap.size<=b/\b<w'.heap.size) w' 3 a n c zs/\(a=none->c=0)/\Below w w w')
def MO(s:gW)(zs:List Int)(p v:Int)(a:Option Addr)(n c:Nat)(w:World)(hz:IR w w 3 a n c zs)(H:n<=1000000)(u:a=none->c=0)(hg:s.e9.size<=9223372036854775807)(hp:jY w w):
 Calls prog 204 #[.agg (⟨s,a,n,c⟩:jt),p,v] w (QM w s zs n p v):=by
 have l:=O (Y.new w s a n c);have h2:=TL (w.alloc (.cells (⟨s,a,n,c⟩:jt) 64)) (.cells zS 64);have h:=O (gY (o:=.cells zS 64) (gY (o:=.cells (⟨s,a,n,c⟩:jt) 64) (TH w w)));rw[Wf]at h2;have r:=O h2;have F:=O hz;have Hc:=O u;have Hp:=O hp;clear h2 hz u hp;go_enter func204,ntmps204;go_upto_region 1 with fail;refine gI (fun t=>Y t w s a n c/\t.heap[w.heap.size+1]? =some (.cells zS 64 (0,0))/\Below w w t) ⟨Y.go (B:=w.heap.size+1) l ((TH _ _).alloc (by simp) _) (by omega),r,h⟩ ?_;clear l r h;rintro w1 ⟨h1,h2,f⟩;have q:=h1.lt;have i:=TK h2;have l:=O h1;have r:=O h2;have h:=O f;clear h1 h2 f;by_cases x:nj s zs n p=0
 .obtain⟨q1,q2⟩:=vm x
  obtain⟨r1,r2⟩:=oM q2;have E:=O x;clear x q1 q2
  go_upto_region 5 with(first
   |(refine gO l rfl (.tmp 3) rfl rfl ?_)
   |((with_reducible refine(xO s zs p a n c _ (F.out.go h.out) H hg (Hp.out.go h.out)).mono ?_);rintro e y ⟨k,f⟩;rw[E]at k;subst k;have d:=O f;clear f)
   |((with_reducible refine(Kk w p _ r1 r2).mono ?_);rintro e w3 ⟨k,f⟩;subst k;have z:=O f;clear f;have C:=Y.go (Y.go l d q) z (ab q d.size);have u:=C.getP r1 r2;have fz:=C.free (mi p);have a0:=O C;clear C))
  refine gI (fun t=>Y t w (s.put p v) a n c/\t.heap[w.heap.size+1]? =some (.cells zS 64 (0,0))/\Below w w t) ⟨a0.put r1 r2 v,gF ((z.block _ (ab i d.size)).trans ((d.block _ i).trans r)) ⟨w.heap.size,mi p,none⟩ (by simp) _,(I h (I d z)).setCell (p:=⟨w.heap.size,mi p,none⟩) (aa _) _⟩ ?_;clear u fz a0 z d l r h q i;rintro w4 ⟨h1,h2,f⟩;have q:=h1.lt;have i:=TK h2;obtain⟨k0,k1,k2,k3,k4,k5,k6,k7,k8,k9,K,L,M,N,P,Q,R,S,T,W,X,D⟩:=h1.cells;have l:=O h1;have r:=O h2;have h:=O f;clear h1 h2 f k0 k1 k2 k3 k4 k5 k6 k7 k8 k9 K L M N P Q R S T W X
  have a1:(s.put p v).e9.size<=9223372036854775807:=by
   obtain rfl|rfl|rfl|rfl|rfl|rfl|rfl|rfl|rfl|rfl|rfl|rfl|rfl|rfl|rfl|rfl|rfl:=oL r1 r2<;>exact hg
  cases hk:oA (s.put p v) zs n with
  |false=>
   have g:mw s zs n p v=2:=by unfold mw;rw[aq E.out,hk];rfl
   have Hk:=O hk;have j:=O g;clear hk g
   go_wp2_with(first
    |(refine gO l rfl (.tmp 3) rfl rfl ?_)
    |((with_reducible refine(nC (s.put p v) zs a n c _ (F.out.go h.out) H a1).mono ?_);rintro e y ⟨k,f⟩;rw[Hk]at k;unfold err at k;simp only[de,bC]at k;subst k;have d:=O f;clear f)
    |(refine hE ⟨0,0,0,0,0,0,0,0,0,0,0,0,0,ik,0,0,0,0,0,0,0⟩ none 0 0 ((d.block _ i).trans r) rfl rfl (.tmp 6) (.tmp 23) rfl rfl rfl ?_))
   refine ar (lY (s:=⟨0,0,0,0,0,0,0,0,0,0,0,0,0,ik,0,0,0,0,0,0,0⟩) (a:=none) (n:=0) (c:=0) rfl rfl rfl (Y.stored ((d.block _ i).trans r) rfl _ _ _ _)) rfl ?_;exact VR ⟨by rw[j];decide,by rw[j];rfl,Below.put22 (I h d) (by omega) _ _ _ _⟩
  |true=>
   have g:mw s zs n p v=0:=by unfold mw;rw[aq E.out,hk];rfl
   have Hk:=O hk;have j:=O g;clear hk g
   go_upto_region 7 with(first
    |(refine gO l rfl (.tmp 3) rfl rfl ?_)
    |((with_reducible refine(nC (s.put p v) zs a n c _ (F.out.go h.out) H a1).mono ?_);rintro e y ⟨k,f⟩;rw[Hk]at k;unfold err at k;simp only[bX]at k;subst k;have d:=O f;clear f))
   refine gI (fun t=>Y t w (s.put p v) a n c/\t.heap[w.heap.size+1]? =some (.cells zS 64 (0,0))/\Below w w t) ⟨l.go d q,(d.block _ i).trans r,I h d⟩ ?_;clear D d l r h q i;rintro w5 ⟨h1,h2,f⟩;have q:=h1.lt;have i:=TK h2;obtain⟨k0,k1,k2,k3,k4,k5,k6,k7,k8,k9,K,L,M,N,P,Q,R,S,T,W,X,D⟩:=h1.cells;have l:=O h1;have r:=O h2;have h:=O f;clear h1 h2 f k0 k1 k2 k3 k4 k5 k6 k7 k8 k9 K L M N P Q R S T W X
   go_wp2_with(first
    |((with_reducible refine(zi zs a n c _ (F.out.go h.out) H Hc.out).mono ?_);rintro e y ⟨a',c',rfl,hi,u,A⟩;clear D;have fz:=Y.free (Y.go l A q) 21;have D:=(Y.cells (Y.go l A q)).2.2.2.2.2.2.2.2.2.2.2.2.2.2.2.2.2.2.2.2.2;have Hi:=O hi;have a2:=O u;have d:=O A;clear hi u A)
    |(refine gO (Y.t9 (Y.go l d q) a' n c') rfl (.tmp 3) rfl rfl ?_)
    |(refine hE (s.put p v) a' n c' (gF ((d.block _ i).trans r) ⟨w.heap.size,21,none⟩ (by simp) _) rfl rfl (.tmp 6) (.tmp 28) rfl rfl rfl ?_))
   refine ar (lY (s:=s.put p v) (a:=a') (n:=n) (c:=c') rfl rfl rfl (Y.stored (gF ((d.block _ i).trans r) ⟨w.heap.size,21,none⟩ (by simp) _) rfl (s.put p v) a' n c')) rfl ?_;refine VS ⟨j,a',c',rfl,Hi.kept ((gK w [_] 21 y).mono ?_|>.trans ((gK (w+1) (gX (s.put p v) a' n c') 0 _).mono ?_)) ?_,a2,?_⟩
   .intro b f;have:=f.1;omega
   .intro b f;have:=f.1;omega
   .intro b f
    refine⟨by have:=f.1;have:=h.size;omega,?_⟩;have:=im (w+1) (gX (s.put p v) a' n c') 0 (y.setCell ⟨w.heap.size,21,none⟩ (.slice a' n c'))
    show b<((y.setCell ⟨w.heap.size,21,none⟩ (.slice a' n c')).setCells (w+1) 0 (gX (s.put p v) a' n c')).heap.size
    rw[this];simpa using f.2
   .exact Below.put22 ((I h d).setCell (p:=⟨w.heap.size,21,none⟩) (aa _) _) (by omega) _ _ _ _
 .have g:mw s zs n p v=nj s zs n p:=by unfold mw;rw[aj x]
  have a3:(nj s zs n p !=0)=true:=by simpa using x
  generalize hm:nj s zs n p=m at*;have E:=O x;have j:=O g;have Hm:=O hm;clear hm x g
  go_wp2_with(first
   |(refine gO l rfl (.tmp 3) rfl rfl ?_)
   |((with_reducible refine(xO s zs p a n c _ (F.out.go h.out) H hg (Hp.out.go h.out)).mono ?_);rintro e y ⟨k,f⟩;rw[Hm]at k;subst k;have d:=O f;clear f)
   |(refine hE ⟨0,0,0,0,0,0,0,0,0,0,0,0,0,ik,0,0,0,0,0,0,0⟩ none 0 0 ((d.block _ i).trans r) rfl rfl (.tmp 6) (.tmp 14) rfl rfl rfl ?_))
  refine ar (lY (s:=⟨0,0,0,0,0,0,0,0,0,0,0,0,0,ik,0,0,0,0,0,0,0⟩) (a:=none) (n:=0) (c:=0) rfl rfl rfl (Y.stored ((d.block _ i).trans r) rfl _ _ _ _)) rfl ?_;exact VR ⟨by rw[j];exact E,by rw[j];rfl,Below.put22 (I h d) (by omega) _ _ _ _⟩
def Eq(l:List gM)(i:Nat)(p:Int):Bool:=match l[i]? with
 |some x=>vl x.s x.zs (x.zs.length/3) p
 |none=>false
def qx(l:List gM)(i p:Int):Bool:=bt i 0 ((l.length:Int)-1)&&Eq l i.toNat p&& ((p !=9)||decide (i<(l.length:Int)-1))
def Er(l:List gM)(a:Option Addr)(n c:Nat)(i p:Int)(w:World)(h:RR jE 22 (fun b=>b<w.heap.size) w a n c l)(W:n<=1000000)(K:jY w w):
 Calls prog 203 #[Z a n c,i,p] w (iZ w (.bool (qx l i p))):=by
 have m:=h.1;have H:=O h;have Q:=O K;clear h K
 have A:qx l i p=(bt i 0 ((n:Int)-1)&&Eq l i.toNat p&& ((p !=9)||decide (i<(n:Int)-1))):=by unfold qx;rw[m]
 have t:=O A;clear A;go_enter func203,ntmps203
 cases hb0:bt i 0 ((n:Int)-1)with
 |false=>
  have d:=O hb0;clear hb0
  go_wp2_with((with_reducible refine(jc _ _ _ _).mono ?_);rintro e T ⟨f,j⟩;rw[d]at f;subst f)
  go_ret;exact⟨by rw[t,d];rfl,j⟩
 |true=>
  have hi:0<=i/\i<=(n:Int)-1:=by simpa[bt]using hb0
  obtain⟨k,rfl⟩:∃k:Nat,i=(k:Int):=⟨i.toNat,by omega⟩
  have E:k<n:=by omega
  have d:=O hb0;clear hb0 hi;obtain⟨b,off,x,cs,rfl,hlt,M,⟨a2,r,c2,rfl,q,F,D,o⟩,L⟩:=H.at E
  have B:Eq l (k:Int).toNat p=vl x.s x.zs r p:=by unfold Eq;rw[aI,M];simp only;rw[<- mU q]
  have P:=O B;have S:=O (q.ir (fun _ h=>h));have R:=O L;have v:=O o;clear B M q D L o;cases hv:vl x.s x.zs r p<;>cases h9:(p !=9) <;>cases hlast:decide ((k:Int) <(n:Int)-1)
  all_goals
   have z:=O hv;have N:=O h9;have y:=O hlast;clear hv;simp only[aD,dQ]at hlast
   go_wp2_with(first
    |(refine pW (jb R (gE C) hlt) (by rfl) (.tmp 15) rfl rfl ?_)
    |((with_reducible refine(jc _ _ _ _).mono ?_);rintro e T ⟨f,j⟩;rw[d]at f;subst f;have C:=j;have g:=O j)
    |((with_reducible refine(MN x.s x.zs p _ r c2 _ (S.out.go g.out) F v.out (Q.out.go g.out)).mono ?_);rintro e X ⟨f,u:HQ _⟩;rw[z]at f;subst f))
   go_ret;exact⟨by rw[t,d,P,z,N,y];rfl,I g u⟩
def CY{P:Program}{f:Oper}{e:Act}{y:World}{b o:Nat}{s:gW}{a:Option Addr}{n c:Nat}{d:TypeDesc}(h:y.rangeAt b o (gX s a n c))(j:P.underlying 64=some d)(g:d.isRow=true)(hi:(P.info? 64).map (·.size)=some 22)(x:Operand)(i:f.op=.load 64 x)
 (k:e.eval x=.pointer (some ⟨b,o,none⟩)):(execOp e.eval f).run P y=.ok (.value (.agg (⟨s,a,n,c⟩:jt))) y:=by
 unfold execOp;simp only[i,k,Instr.loadAt,Instr.sureAddr,bR,cT,bU,run_loadVar_mid y b o 64 (gX s a n c) d h j g hi];rfl
def pE{ops:Array Oper}{Q:Exit->Act->World->Prop}{N i:Nat}{g:List Nat}{fs:List (Nat×Tmp×Obj)}{C:Nat->Prop}{d:List (Nat×Bool)}{f:Oper}{e:Act}{w:World}(hi:ops.toList[i]? =some f)(j:g.contains i=false)
 (hw:Region.wanted f (yielded ops e.tmps)=true){b o:Nat}{s:gW}{a:Option Addr}{n c:Nat}(h:∀y,Below w w y->y.rangeAt b o (gX s a n c))(x:Operand)(l:f.op=.load 64 x)
 (m:e.eval x=.pointer (some ⟨b,o,none⟩))(k:Bx prog ops Q N g fs C d (e.put f.dst (.agg (⟨s,a,n,c⟩:jt))) w):Bx prog ops Q N g fs C ((i,true)::d) e w:=
 gZ (fun y p=>CY (h y p) underlying64 rfl Tryz.infoSurf x l m) k hi j hw
def pX{ops:Array Oper}{d:List Oper}{f:Oper}{e:Act}{w:World}{Q:Exit->Act->World->Prop}{b o:Nat}(s:gW)(a:Option Addr)(n c:Nat)(h:w.there b o 22)(g:f.guard=none)(x y:Operand)(j:f.op=.store 64 x y)
 (k:e.eval x=.pointer (some ⟨b,o,none⟩))(l:e.eval y=.agg (⟨s,a,n,c⟩:jt))(i:wpList prog ops Q d (e.put f.dst undef) (w.setCells b o (gX s a n c))):wpList prog ops Q (f::d) e w:=
 wpList_store_mid g 64 x y j b o (⟨s,a,n,c⟩:jt) k l h Tryz.infoSurf (by simp[Value.oneCell']) i
def nT(l:List gM)(i p v:Int):Bool:=qx l i p&& (match l[i.toNat]? with
 |some x=>decide (mw x.s x.zs (x.zs.length/3) p v=0)
 |none=>false)
def qy(l:List gM)(i p v:Int):List gM:=match l[i.toNat]? with
 |some x=>if nT l i p v then l.set i.toNat ⟨x.s.put p v,x.zs⟩else l
 |none=>l
def QN(w:World)(g n c base:Nat)(l:List gM)(i p v:Int)(e:Ending)(w':World):Prop:=
 e=.returned (.bool (nT l i p v))/\jD jE 22 64 base w' (.slice (J g) n c) (qy l i p v)/\w.grownBy w' (some g)
def tM{w w':World}{row:Option Nat}(h:Below w w w'):w.grownBy w' row:=⟨h.os,h.tape,h.output,h.size,fun k a _=>h.block k a⟩
def zo{w w':World}(h:Below w w w')(g o:Nat)(a:List Value):w.grownBy (w'.setCells g o a) (some g):=by
 have h0:=ig (aA g) a o (h.mono (aA _));refine⟨h0.os,h0.tape,h0.output,by rw[im];exact h.size,fun k c b=>?_⟩;exact(gK g a o w' k (fun e=>b (by rw[e]))).trans (h.block k c)
def kE{w:World}{g:Nat}{x y z:Value}{T:TypeId}(h:w.heap[g]? =some (.cells #[x,y,z] T (0,0))):w.cell? (J g)=some x/\w.cell? ⟨g,1,none⟩=some y/\w.cell? ⟨g,2,none⟩=some z:=by
 refine⟨?_,?_,?_⟩ <;>simp[World.cell?,h]
def Pm(l:List gM)(g n c base:Nat)(i p v:Int)(w:World)(h:jD jE 22 64 base w (.slice (J g) n c) l)(hn:n<=1000000)(hp:jY w w):
 Calls prog 171 #[Z (J g) n c,.agg #[i,p,v]] w (QN w g n c base l i p v):=by
 have a4:=h.rr iD;have a8:=a4.1;have E:=O (show Below w w (w.alloc (.cells #[i,p,v] 74))from(TH _ _).alloc (aa _) _);have H:=O h;have Hr:=O a4;have Hp:=O hp;clear h hp a4;go_enter func171,ntmps171
 cases hh:qx l i p with
 |false=>
  have d:nT l i p v=false:=by unfold nT;rw[hh];rfl
  have a:qy l i p v=l:=by unfold qy;split<;>simp[d]
  have Hh:=O hh;have u:=O d;have j:=O a;clear hh d a
  go_wp2_with((with_reducible refine(Er l _ n c i p _ (Hr.out.go iD E.out) hn (Hp.out.go E.out)).mono ?_);rintro e w2 ⟨he,f⟩;rw[Hh]at he;subst he;have F:=O (I E f);clear f)
  go_ret;exact⟨by rw[u];rfl,by rw[j];exact H.go iD F,tM F⟩
 |true=>
  have c9:0<=i/\i<=(n:Int)-1:=by
   unfold qx at hh;simp only[am]at hh;have:=hh.1.1;rw[a8]at this;simpa[bt]using this
  obtain⟨k,rfl⟩:∃k:Nat,i=(k:Int):=⟨i.toNat,by omega⟩
  have d3:k<n:=by omega
  have Hh:=O hh;clear hh c9
  have X:k<l.length:=by omega
  have hN:w.heap.size<(w.alloc (.cells #[.int .i64 (k:Int),p,v] 74)).heap.size:=by simp
  have N:=O (TL w (.cells #[.int .i64 (k:Int),p,v] 74))
  go_upto_region 3 with((with_reducible refine(Er l _ n c k p _ (Hr.out.go iD E.out) hn (Hp.out.go E.out)).mono ?_);rintro e w2 ⟨he,f⟩;rw[Hh]at he;subst he;have F:=O f;clear f)
  refine gI (fun z=>z.heap[w.heap.size]? =some (.cells #[.int .i64 (k:Int),p,v] 74 (0,0))/\Below w w z) ⟨(F.block _ hN).trans N,I E F⟩ ?_;clear F E N hN w2;rintro w2 ⟨T,f⟩;have a0:=TK T;obtain⟨q0,q1,q2⟩:=kE T;have H2:=O (H.go iD f);obtain⟨cs,⟨a2,C,c2,rfl,hz,c0,b5,b6⟩,a1⟩:=H2.at iD X
  have hgl:g<w2.heap.size:=by
   obtain ⟨e,_⟩|⟨g',_,e,_,q,_,_,_⟩:=H2.form
   .cases e
   .cases e;exact q
  have d2:g<w.heap.size:=by
   obtain ⟨e,_⟩|⟨g',_,e,_,q,_,_,_⟩:=H.form
   .cases e
   .cases e;exact q
  have Hx:=O (show l[k]? =some l[k]from ae X);generalize l[k]=x at*;have b2:=O (mU hz);have Hz:=O (hz.ir (fun _ h=>h));have a9:=O b6;have c4:=O b5;have a6:=O a1;have Hb:=O f;have N:=O T;clear hz b6 b5 a1 f T;refine ic 14 [12] [(13,5,.cells zS 64)] [(0,true),(1,true),(2,true),(3,true),(4,true),(5,true),(6,true),(7,true),(8,true),(9,false),(10,true),(11,true),(12,true)] (by kernel_rfl) (by kernel_rfl) ⟨by simp,by simp,by(simp only[ct];exact⟨⟨by omega,_,rfl,rfl,rfl,fun _ _=>rfl⟩,fun _ h=>by cases h⟩)⟩ (fun _ _ _ _ _ h=>h) (fun _ _ o _ _ h=>by cases o<;>exact h) ?_
  iterate 4
   refine gZ (v:=?_) ?_ ?_;rotate_left
   .intro y hy
    have z0:=(hy.cell (p:=J (w.heap.size)) a0).trans q0;go_simp;rfl
   try simp only[V]
  refine pE rfl rfl (by rfl) (fun y hy=>jb a6 (gE (gJ (k:=1) hy)) hgl) _ rfl rfl ?_;try simp only[V]
  iterate 4
   refine gZ (v:=?_) ?_ ?_;rotate_left
   .intro y hy
    have z1:=(hy.cell (p:=⟨w.heap.size,1,none⟩) a0).trans q1;have z2:=(hy.cell (p:=⟨w.heap.size,2,none⟩) a0).trans q2;go_simp;rfl
   try simp only[V]
  refine iK (fun x1 a5 K hK=>?_);go_simp;have r:Below w2 w2 x1:=gJ (k:=1) a5;have Q:=I Hb r;refine(MO x.s x.zs p v a2 C c2 _ (Hz.go r) c0 c4 a9 (Hp.go Q)).mono ?_;rintro e w3 (⟨h1,rfl,A⟩|⟨h0,a',c',rfl,hi,b4,A⟩)
  .refine hK _ _ A ?_
   clear hK K
   iterate 3
    refine iy (v:=?_) ?_ ?_;rotate_left
    .intro y
     go_simp;rfl
    try simp only[V]
   refine nV (l:=[_,_]) rfl (fun b1 w4 hC B P=>?_);try simp only[V]
   have d:nT l k p v=false:=by unfold nT;rw[aI,Hx];simp only;rw[<- b2];simp[h1]
   have a:qy l k p v=l:=by unfold qy;split<;>simp[d]
   have d4:(mw x.s x.zs C p v==0)=false:=by simpa using h1
   have M:=O (I Q (I A B));have a3:w.heap.size<=b1:=af Hb.size hC.1;have u:=O d;have j:=O a;have L:=O P;clear d a h1 P A B Q a5 r;generalize mw x.s x.zs C p v=m at*
   go_wp2_with(refine hE ⟨0,0,0,0,0,0,0,0,0,0,0,0,0,ik,0,0,0,0,0,0,0⟩ none 0 0 L rfl rfl (.tmp 5) (.tmp 25) rfl rfl rfl ?_;refine jJ (fun z=>Below w w z) (Below.put22 M a3 ⟨0,0,0,0,0,0,0,0,0,0,0,0,0,ik,0,0,0,0,0,0,0⟩ none 0 0) ?_;clear L;rintro w5 t;have D:=O t;clear t)
   go_ret;exact⟨by rw[u];rfl,by rw[j];exact H.go iD D,tM D⟩
  .refine hK _ _ A ?_
   clear hK K
   iterate 3
    refine iy (v:=?_) ?_ ?_;rotate_left
    .intro y
     go_simp;rfl
    try simp only[V]
   refine nV (l:=[_,_]) rfl (fun b1 w4 hC B P=>?_);try simp only[V]
   have d:nT l k p v=true:=by unfold nT;rw[Hh,aI,Hx];simp only;rw[<- b2];simp[h0]
   have a:qy l k p v=l.set k ⟨x.s.put p v,x.zs⟩:=by unfold qy;rw[aI,Hx];simp[d]
   have S:=I Q (I A B);have a3:w.heap.size<=b1:=af Hb.size hC.1;have b8:IRp (fun b=>w.heap.size<=b/\b<w4.heap.size/\b≠g/\b≠b1) w4 3 a' C c' x.zs:=hi.kept (fun b f=>B.block b f.2) (fun b f=>⟨by have:=f.1;have:=r.size;have:=Hb.size;omega,by have:=B.size;omega,by have:=r.size;omega,by have:=hC.2;omega⟩);have u:=O d;have j:=O a;have L:=O P;have M:=O S;have b0:=O b8;have c3:=O b4
   have c8:(x.s.put p v).e9.size<=9223372036854775807:=by
    obtain⟨_,d0⟩:=vm (show nj x.s x.zs C p=0 from by
     apply bg;intro hc
     unfold mw at h0;rw[aj hc]at h0;exact hc h0)
    obtain⟨r1,r2⟩:=oM d0
    obtain rfl|rfl|rfl|rfl|rfl|rfl|rfl|rfl|rfl|rfl|rfl|rfl|rfl|rfl|rfl|rfl|rfl:=oL r1 r2<;>exact a9
   have a7:b1≠w.heap.size:=by have:=hC.1;omega
   have R:=O ((I r (I A B)).block _ a0|>.trans N)
   have d1:b1≠g:=by omega
   have c7:base<=w.heap.size:=by
    obtain ⟨e,_⟩|⟨g',_,e,q,q2,_⟩:=H.form
    .cases e
    .omega
   clear d a P S A B Q a5 r b8 hi b4 q0 q1 q2 N
   go_wp2_with(first
    |(refine hE (x.s.put p v) a' C c' L rfl rfl (.tmp 5) (.tmp 25) rfl rfl rfl ?_;refine jJ (fun z=>Y z b1 (x.s.put p v) a' C c'/\z.heap[w.heap.size]? =some (.cells #[.int .i64 (k:Int),p,v] 74 (0,0))/\Below w w z/\IRp (fun b=>w.heap.size<=b/\b<z.heap.size/\b≠g) z 3 a' C c' x.zs) ⟨Y.stored L rfl _ _ _ _,vS.other R a7 _ _ _ _,Below.put22 M a3 _ _ _ _,b0.kept ((gK b1 (gX (x.s.put p v) a' C c') 0 w4).mono (fun b f=>f.2.2.2)) (fun b f=>⟨f.1,by have e:=im b1 (gX (x.s.put p v) a' C c') 0 w4;exact ab f.2.1 (Nat.le_of_eq e.symm),f.2.2.1⟩)⟩ ?_;clear L R b0;rintro w5 ⟨c1,W,t,b9⟩;obtain⟨q0,q1,q2⟩:=kE W;have b3:=O c1;have D:=O t;have c6:=O b9;have H5:=O (H.go iD t);clear c1 t b9 W)
    |(refine gO b3 rfl (.tmp 5) rfl rfl ?_)
    |(refine pX (x.s.put p v) a' C c' (H5.there X) rfl _ _ rfl rfl rfl ?_;refine jJ (fun z=>jD jE 22 64 base z (.slice (J g) n c) (l.set k ⟨x.s.put p v,x.zs⟩)/\w.grownBy z (some g)) ⟨H5.set iD X ⟨a',C,c',rfl,c6.kept (gN.refl _ _) (fun b f=>⟨af c7 f.1,f.2⟩),c0,c3,c8⟩,zo D g _ _⟩ ?_;clear b3 H5;rintro w6 ⟨h6,b7⟩;have H6:=O h6;have c5:=O b7;clear h6 b7))
   go_ret;exact⟨by rw[u];rfl,by rw[j];exact H6,c5⟩
def tu(l:List gM)(zs:List Int):Nat->Option (List gM)
 |0=>some l
 |k+1=>(tu l zs k).bind fun l'=>if oK zs k (zs.getD (k*3) 0) (zs.getD (k*3+1) 0)=false/\nT l' (zs.getD (k*3) 0) (zs.getD (k*3+1) 0) (zs.getD (k*3+2) 0)=true then some (qy l' (zs.getD (k*3) 0) (zs.getD (k*3+1) 0) (zs.getD (k*3+2) 0))else none
def vU{l:List gM}{zs:List Int}{k n:Nat}(h:tu l zs k=none)(b:k<=n):tu l zs n=none:=by
 induction n with
 |zero=>obtain rfl:k=0:=by omega
        exact h
 |succ n a=>
  by_cases e:k=n+1
  .subst e;exact h
  .unfold tu;rw[a (by omega)];rfl
def xP(l:List gM)(i p v:Int):(qy l i p v).length=l.length:=by
 unfold qy;split
 .split<;>simp
 .rfl
def CZ{zs:List Int}{m j:Nat}(h:j<m):(zs.take m).getD j 0=zs.getD j 0:=by
 simp only[ah,cZ,aq h]
def IR.take{N:Nat}{w:World}{k:Nat}{a:Option Addr}{n c:Nat}{zs:List Int}(h:IR N w k a n c zs){i:Nat}(hi:i<=n):IR N w k a i c (zs.take (i*k)):=by
 have l:=Ui k hi;refine⟨by rw[bn,h.1];omega,af hi h.2.1,fun h0=>?_⟩;obtain⟨b,off,e,d,f⟩:=h.2.2 (by omega);exact⟨b,off,e,d,fun j g=>by rw[CZ g];exact f j (by omega)⟩
def xQ(zs:List Int)(i:Nat)(s p:Int):oK (zs.take (i*3)) i s p=oK zs i s p:=by
 unfold oK;rw[bJ,cw,cw];constructor
 all_goals
  rintro⟨k,a,h⟩;have b:=aJ.1 a;refine⟨k,a,?_⟩;simp only[CZ (zs:=zs) (m:=i*3) (j:=k*3) (by omega),CZ (zs:=zs) (m:=i*3) (j:=k*3+1) (by omega)]at h⊢;exact h
def So(w:World)(l:List gM)(zs:List Int)(n:Nat)(e:Ending)(w':World):Prop:=
 (tu l zs n=none/\e=.returned (.tuple #[oN,false])/\Below w w w')\/
 (∃l' g m c,tu l zs n=some l'/\e=.returned (.tuple #[Z (J g) m c,.bool (decide (n<=12))])/\jD jE 22 64 w w' (.slice (J g) m c) l'/\Below w w w')
def W7(l:List gM)(zs:List Int)(a b:Option Addr)(m d n c:Nat)(w:World)(h:RR jE 22 (fun b=>b<w.heap.size) w a m d l)(hm:m<=1000000)(P:IR w w 3 b n c zs)(hn:n<=1000000)(hp:jY w w):
 Calls prog 125 #[Z a m d,Z b n c] w (So w l zs n):=by
 have H:=O h;have Hz:=O P;have Hp:=O hp;have u:=h.1;have a0:=P.2.1;clear h P hp;go_enter func125,ntmps125
 go_wp2_with((with_reducible refine(MM l a m d _ H.out hm).mono ?_);rintro e w1 ⟨g,c1,rfl,v,A⟩;rw[u]at v;rw[u];have R:=O v;have Hb:=O A;clear v A)
 have W:w.heap.size<=g:=by
  obtain ⟨e,_⟩|⟨g',_,e,q,_⟩:=R.form
  .cases e
  .cases e;exact q
 go_loopw [14] (fun Q wr=>∃k l',k<=n/\Q=.int .i64 (k:Int)/\tu l zs k=some l'/\jD jE 22 64 w wr (.slice (J g) m c1) l'/\Below w w wr) (fun Q _=>n-(intOf Q).toNat)
 case atStart=>exact⟨0,l,by omega,rfl,rfl,R,Hb⟩
 case round=>
  obtain⟨k,l',hk,rfl,K,v,A⟩:=hrel;have D:=O K;have E:=O v;have f:=O A;clear K v A;by_cases X:k<n
  .have B:=Hz.go f
   obtain⟨b1,off,rfl,hlt,x0,x1,x2⟩:=B.at3 X;have F:=O (B.take (i:=k) (by omega));clear B
   have M:tu l zs (k+1)=if oK zs k (zs.getD (k*3) 0) (zs.getD (k*3+1) 0)=false/\nT l' (zs.getD (k*3) 0) (zs.getD (k*3+1) 0) (zs.getD (k*3+2) 0)=true then some (qy l' (zs.getD (k*3) 0) (zs.getD (k*3+1) 0) (zs.getD (k*3+2) 0))else none:=by
    rw[tu,D];rfl
   have y:=O M;clear M;generalize zs.getD (k*3) 0=s0 at*;generalize zs.getD (k*3+1) 0=p0 at*;generalize zs.getD (k*3+2) 0=v0 at*;have t:=O (show Below wr wr (wr.alloc (.cells #[s0,p0,v0] 74))from(TH _ _).alloc (aa _) _);have r:=O (TL wr (.cells #[s0,p0,v0] 74))
   cases hag:oK zs k s0 p0 with
   |true=>
    have x:=O ((xQ zs k s0 p0).trans hag);have p:=O hag;clear hag
    go_wp2_with((with_reducible refine(tK (zs.take (k*3)) _ k c s0 p0 wr _ (F.out.go t.out) (by omega) (kE r.out).1 (kE r.out).2.1 (by simp)).mono ?_);rintro e w2 ⟨s,o⟩;rw[x]at s;subst s;have j:=O (I t o);clear o)
    go_ret2;refine VR ⟨vU (k:=k+1) ?_ (by omega),rfl,I f j⟩;rw[y,aj (by rw[p];simp)]
   |false=>
    have x:=O ((xQ zs k s0 p0).trans hag);have p:=O hag;clear hag;cases hpu:nT l' s0 p0 v0
    all_goals
     have z:=O hpu;clear hpu
     go_wp2_with(first
      |((with_reducible refine(tK (zs.take (k*3)) _ k c s0 p0 wr _ (F.out.go t.out) (by omega) (kE r.out).1 (kE r.out).2.1 (by simp)).mono ?_);rintro e w2 ⟨s,o⟩;rw[x]at s;subst s;obtain⟨q0,q1,q2⟩:=kE ((o.block wr (by simp)).trans r);have j:=O (I t o);clear o)
      |((with_reducible refine(Pm l' g m c1 w s0 p0 v0 _ (E.out.go iD j.out) hm (Hp.out.go (I f.out j.out))).mono ?_);rintro e w3 ⟨s,N,L⟩;rw[z]at s;subst s;have S:=O N;have C:=O ((I f j).grown L (I f j).size (fun q hq=>by cases hq;exact W));clear N L))
    .go_ret2
     refine VR ⟨vU (k:=k+1) ?_ (by omega),rfl,C⟩;rw[y,aj (by rw[z];simp)]
    .go_roundw
     case rel=>exact⟨k+1,qy l' s0 p0 v0,by omega,by go_num,by rw[y,aq ⟨p,z⟩],S,C⟩
     case measure=>simp[intOf];omega
  .obtain rfl:k=n:=by omega
   by_cases T:k<=12
   all_goals
    go_wp2;go_ret2;exact VS ⟨l',g,m,c1,D,by simp[T] <;>omega,E,f⟩

import Derived.Test.YtlnbjinneegciabGreatDoorTBI
namespace Go.Proofs.YtlnbjinneegciabGreatDoor
set_option linter.all false
set_option maxRecDepth 100000
open Go.Proofs.Tryz Go.ChangeShapes Go.WideShapes Go.ChangeAt Go.RowKit Go.WideElems Go.Maps
def jy{w:World}{cs:List Value}{n:Nat}{d:DataW (List UInt8)}{q:List MemPlace}{nm:List UInt8}{z:Int}{b:UInt8}{r:List UInt8}{f0:FuncId}(c:YC (b::r) f0)
 (h:DataW.trod (funcToken prog) prog w 0 (fun _=>true) true n 83 cs=some (d,q))(o:d=.agg [.lit (.string nm),.lit (.int .i64 z),.held (b::r)]):cs=[.string (bs nm),.int .i64 z,.func (.func f0) #[] #[]]:=by
 obtain⟨xs,m,_,j,p,s,hf⟩:=DataW.trod_struct underlying83 h;have i:cs.length=3:=p.trans (by kernel_rfl);rw[dK]at j
 match cs,i with
 |[c0,c1,c2],_=>
  have a:xs.map (·.1)=[.lit (.string nm),.lit (.int .i64 z),.held (b::r)]:=by
   have:=j.1.symm.trans o
   injection this
  match xs,a with
  |[x0,x1,x2],a=>
   simp only[aN,bI,ei,and_true]at a;obtain⟨e0,k,l⟩:=a;have h0:=hf 0 _ rfl;have h1:=hf 1 _ rfl;have h2:=hf 2 _ rfl
   have e:prog.cellsOf 9=1:=by kernel_rfl
   have f:prog.cellsOf 3=1:=by kernel_rfl
   have g:prog.cellsOf 81=1:=by kernel_rfl
   simp only[e,f,g,dW,List.drop_succ_cons,dI,dU,eS,cS]at h0 h1 h2;obtain rfl:=OX (q:=x0.2) underlying9 (h0.trans (by rw[<- e0]));obtain rfl:=OY (q:=x1.2) underlying3 (h1.trans (by rw[<- k]));obtain rfl:=func_of_trod (f0:=f0) (q:=x2.2) underlying81 c (h2.trans (by rw[<- l]));rfl
def Tj:prog.globalNamed "monocle/sequence.params" =some 0:=by kernel_rfl
def Z3:(prog.globals[0]?).map (·.type)=some 84:=by kernel_rfl
def yV:List (DataW (List UInt8)):=(List.range 17).map fun i=>.agg [.lit (.string (kO.getD i [])),.lit (.int .i64 (oo (i+1))),.held (Yy ([112,97,114,97,109,115,36]++Yz (i+1)))]
abbrev Qo:DataW Unit:=match Rows.laid_monocle_sequence_params (H:=Unit)with| .iface _ d=>d|d=>d
def Qp:Qo.funcsOut=.agg yV:=by kernel_rfl
def OZ{w:World}(h:funcsAt prog w "monocle/sequence.params" Qo):∀i,i<17->w.rangeAt 0 (i*3) [.string (bs (kO.getD i [])),.int .i64 (oo (i+1):Int),.func (.func (QB i)) #[] #[]]:=by
 obtain⟨g,t,cs,fuel,p,o,C,D,z⟩:=h;obtain rfl:=aE (Tj.symm.trans o);obtain rfl:=aE (Z3.symm.trans C);obtain⟨xs,m,_,u,A,E,hf⟩:=DataW.trod_array underlying84 z;rw[dK]at u
 have B:xs.map (·.1)=yV:=by
  have l:DataW.agg yV=.agg (xs.map (·.1)):=Qp.symm.trans u.1
  injection l with l
  exact l.symm
 have c3:prog.cellsOf 83=3:=by kernel_rfl
 have v:cs.toList.length=51:=A.trans (by kernel_rfl)
 have f:∀i,i<17-> ∃d q,DataW.trod (funcToken prog) prog w 0 (fun _=>true) true m 83 ((cs.toList.drop (i*3)).take 3)=some (d,q)/\yV[i]? =some d:=by
  intro i hi;have h1:=hf i hi;rw[c3]at h1
  have k:i<xs.length:=by omega
  rw[ae k]at h1;exact⟨xs[i].1,xs[i].2,h1,by rw[<- B,aR,ae k];rfl⟩
 have n:∀i,i<17-> ∀a b c:Value,(cs.toList.drop (i*3)).take 3=[a,b,c]->w.rangeAt 0 (i*3) [a,b,c]:=by
  intro i hi a b c e j x r;have s:j<3:=(TG.1 r).1;have y:=World.var?_cell o D (i*3+j);rw[y,<- r,<- e,cZ,aq s,cp];simp
 intro i hi
 obtain rfl|rfl|rfl|rfl|rfl|rfl|rfl|rfl|rfl|rfl|rfl|rfl|rfl|rfl|rfl|rfl|rfl:i=0\/i=1\/i=2\/i=3\/i=4\/i=5\/i=6\/i=7\/i=8\/i=9\/i=10\/i=11\/i=12\/i=13\/i=14\/i=15\/i=16:=by omega
 all_goals
  obtain⟨d,q,h1,h2⟩:=f _ hi;exact n _ hi _ _ _ (jy YA h1 (aE h2).symm)
def Tl:prog.globalNamed "monocle/sequence.kinds" =some 1:=by kernel_rfl
def Tm:(prog.globals[1]?).map (·.type)=some 88:=by kernel_rfl
def Tn:prog.globalNamed "monocle/sequence.order" =some 3:=by kernel_rfl
def To:(prog.globals[3]?).map (·.type)=some 88:=by kernel_rfl
def CR:∀{ss:List ByteArray}{l:List (List UInt8)},strs (H:=Unit) ss=l.map (fun s=>DataW.lit (.string s))->ss=l.map bs
 |[],[],_=>rfl
 |[],_::_,h=>by cases h
 |_::_,[],h=>by cases h
 |s::ss,x::l,h=>by
  unfold strs at h;simp only[aN,ei,DataW.lit.injEq,Lit.string.injEq]at h;obtain⟨h1,h2⟩:=h;rw[aN,CR (ss:=ss) (l:=l) h2,<- h1]
def AT{w:World}{nm:String}{g:Nat}{l:List (List UInt8)}{i:List (String×DataW Unit)}(t:prog.globalNamed nm=some g)(D:(prog.globals[g]?).map (·.type)=some 88)(M:l≠[])
 (h:laidMet prog ((nm,.slice (l.map fun s=>.lit (.string s)) [])::i) w):∃a n c,w.cell? (J g)=some (.slice a n c)/\ua w a n c l w:=by
 obtain⟨N,⟨K,Q,E,f0,p0,P,u,z,A,r,_,_⟩,_,_⟩:=h;obtain rfl:=aE (t.symm.trans u);obtain rfl:=aE (D.symm.trans z)
 obtain ⟨_,d⟩|⟨a,len,cap,ss,q,_,v,_,y,d,b,_⟩:=open_strings underlying88 underlying9 (by kernel_rfl) r
 .cases d
 .simp only[dK,DataW.slice.injEq]at d
  have h1:=CR d.1.1.symm
  have h2:ss.drop len=[]:=by
   have:=d.1.2;unfold strs at this;exact List.map_eq_nil_iff.1 this.symm
  have e:ss=l.map bs:=by rw[<- h1];have:=cA len ss;rw[h2,bG]at this;exact this.symm
  have f:l.length=len:=by
   have H:ss.length=l.length:=by rw[e,aU]
   have L:ss.length<=len:=by rw[List.drop_eq_nil_iff]at h2;exact h2
   have F:len<=ss.length:=by rw[y];split<;>omega
   omega
  have p:w.cell? (J g)=some (.slice (some a) len cap):=by
   have:=World.var?_cell t A 0;rw[Array.eq_one_of_toList q]at this;simpa using this
  refine⟨some a,len,cap,p,f,v,fun B=>?_⟩;have k:=b 0 (by rw[e,aU];omega)
  have o:a.add 0=a:=by simp[Addr.add]
  rw[o]at k;obtain⟨m,hlt⟩:=vJ k;refine⟨a.block,a.off,by rw[<- m],hlt,fun j x d=>?_⟩;have C:=(TG.1 d).1;have:=b j (by rw[e,aU];exact C);rw[m,fC]at this;rw[this,e,ah,aR,d];rfl
def D3:List (Lit×DataW (List UInt8)):=[(.string lB,.agg [.lit (.string lB),.lit (.int .i64 6),.held (Yy [111,116,104,101,114,115,36,49])]),(.string kj,.agg [.lit (.string kj),.lit (.int .i64 0),.held (Yy [111,116,104,101,114,115,36,50])])]
def D4:List (Lit×DataW (List UInt8)):=[(.string mc,.held (YB mc)),(.string Fp,.held (YB Fp)),(.string vB,.held (YB vB)),(.string xZ,.held (YB Yx)),(.string sO,.held (YB sO)),(.string qJ,.held (YB qJ)),(.string vA,.held (YB vA)),(.string Aa,.held (YB Aa)),(.string nq,.held (YB nq)),(.string Ab,.held (YB Ab))]
abbrev Qq:DataW Unit:=match Rows.laid_monocle_sequence_others (H:=Unit)with| .iface _ d=>d|d=>d
abbrev Qr:DataW Unit:=match Rows.laid_monocle_sequence_readers (H:=Unit)with| .iface _ d=>d|d=>d
def Qs:Qq.funcsOut=.map D3:=by kernel_rfl
def Qt:Qr.funcsOut=.map D4:=by kernel_rfl
def Gk{H:Type}{l:List (Lit×DataW H)}{k:Lit}(h:∀p∈l,p.1.sameKey k=false)(z:DataW H):(DataW.map l).atKey k z=z:=by
 unfold DataW.atKey;simp only;rw[List.find?_eq_none.2 (fun p a=>by rw[h p a];simp)]
def Jb:Value->List UInt8
 | .string s=>VX s
 |_=>[]
def Gl{w:World}{nm:String}{g:Nat}{t e:TypeId}{D:List (Lit×DataW (List UInt8))}{z:Value}{a:List UInt8->Option Value}(Q:prog.globalNamed nm=some g)(ht:(prog.globals[g]?).map (·.type)=some t)(H:prog.underlying t=some (.map 9 e))
 (hz:(zeroValue e).run prog w=.ok z w){d:DataW Unit}(N:d.funcsOut=.map D)(h:funcsAt prog w nm d)
 (S:∀s,(∀o,(DataW.map D).atKey (.string s) o=o)->a s=none)(u:∀s,maxLen<s.length->a s=none)
 (B:∀s n v y,elemAt (funcToken prog) prog w 0 (fun _=>true) true n e v=some y->(∀o,(DataW.map D).atKey (.string s) o=y.1)->a s=some v):Ap w g w a:=by
 obtain⟨g0,t0,cs,fuel,p,R,X,hv,P⟩:=h;obtain rfl:=aE (Q.symm.trans R);obtain rfl:=aE (ht.symm.trans X)
 obtain ⟨_,f⟩|⟨b,r,q,m,_,M,hb,_,F,f⟩:=WideElems.open_map H P
 .rw[N]at f;cases f
 simp only[dK]at f;have E:=f.1;rw[N]at E;have k:prog.underlying 9=some .string:=underlying9
 have hc:w.cell? (J g)=some (.map (some b)):=by
  have:=World.var?_cell Q hv 0;rw[Array.eq_one_of_toList M]at this;simpa using this
 have j:∀x∈r.toList,x.key=.string (bs (Jb x.key))/\(Jb x.key).length<=maxLen:=by
  intro x f;obtain⟨l,c⟩:=F.keys x f;rw[keyOf_string k]at c;cases hk:x.key<;>rw[hk]at c<;>simp[mapKey,k]at c;rename_i s;refine⟨by show Value.string s=.string (bs (VX s));rw[qO],?_⟩
  have e1:s.size=(VX s).length:=by unfold VX;rw[fe];rfl
  show(VX s).length<=maxLen
  omega
 have L:Li w b (r.toList.map fun x=>(Jb x.key,x.val)):=by
  refine⟨r,q,hb,?_⟩;rw[dD]
  exact List.map_congr_left fun x f=>by rw[(j x f).1];rfl
 refine⟨b,_,hc,TK hb,L,fun s=>?_⟩;by_cases W:s.length<=maxLen
 .have A:keyOf prog 9 (.string (bs s))=some (.string s):=WideMaps.keyOf_string_mk k (s:=bs s) W
  have T:=mM H k hz L s true
  obtain ⟨h1,_,hat⟩|⟨e0,y,_,_,h1,hR,hat,_⟩:=fit_look (w:=w) true (string_keyed k) H hz hb F A
  .have i:=YY (T.symm.trans h1)
   simp only[bX,Value.tuple.injEq]at i;rw[S s (fun o=>by rw[E];exact hat o)]
   cases c:rR (r.toList.map fun x=>(Jb x.key,x.val)) s with
   |none=>rfl
   |some v=>rw[c]at i;simp at i
  .have i:=YY (T.symm.trans h1)
   simp only[bX,Value.tuple.injEq]at i;rw[B s m e0.val y hR (fun o=>by rw[E];exact hat o)]
   cases c:rR (r.toList.map fun x=>(Jb x.key,x.val)) s with
   |none=>rw[c]at i;simp at i
   |some v=>rw[c]at i;simp at i;rw[i]
 .rw[u s (by omega)]
  cases c:rR (r.toList.map fun x=>(Jb x.key,x.val)) s with
  |none=>rfl
  |some v=>
   unfold rR at c;obtain⟨e1,C,_⟩:=gj.1 c;have hm:=List.mem_of_find?_eq_some C;have hp:=List.find?_some C;obtain⟨x,f,rfl⟩:=cP.1 hm
   have e2:Jb x.key=s:=by simpa using hp
   have K:=(j x f).2;rw[e2]at K;exact absurd K W
def AU(a b:List UInt8):(Lit.string a).sameKey (.string b)=decide (a=b):=by
 by_cases h:a=b
 .subst h;simp[Lit.sameKey]
 .simp[Lit.sameKey,h]
def AV{x:DataW (List UInt8)}(h:∀a:DataW (List UInt8),a=x):False:=by
 have h1:=h .nil;have h2:=h (.lit (.bool true));rw[<- h2]at h1;cases h1
def Tp:prog.globalNamed "monocle/sequence.others" =some 2:=by kernel_rfl
def Tq:(prog.globals[2]?).map (·.type)=some 128:=by kernel_rfl
def Tr:prog.globalNamed "monocle/sequence.readers" =some 4:=by kernel_rfl
def Ts:(prog.globals[4]?).map (·.type)=some 209:=by kernel_rfl
def CS{w:World}{n:Nat}{v:Value}{y:DataW (List UInt8) ×List MemPlace}{nm:List UInt8}{z:Int}{b:UInt8}{r:List UInt8}{f0:FuncId}(a:YC (b::r) f0)
 (h:elemAt (funcToken prog) prog w 0 (fun _=>true) true n 83 v=some y)(e:y.1=.agg [.lit (.string nm),.lit (.int .i64 z),.held (b::r)]):v=.agg #[.string (bs nm),z,.func (.func f0) #[] #[]]:=by
 unfold elemAt at h;split at h
 .rename_i hform
  have c:=jy a (d:=y.1) (q:=y.2) h e;cases v<;>simp_all [Value.formed,Value.cells,underlying83];rename_i cs;rw[<- c]
 .cases h
def pq{w:World}{n:Nat}{v:Value}{y:DataW (List UInt8) ×List MemPlace}{b:UInt8}{r:List UInt8}{f0:FuncId}(a:YC (b::r) f0)
 (h:elemAt (funcToken prog) prog w 0 (fun _=>true) true n 208 v=some y)(c:y.1=.held (b::r)):v=.func (.func f0) #[] #[]:=by
 unfold elemAt at h;split at h
 .rename_i hform
  have d:v.cells.toList=[v]:=by
   cases v<;>simp_all [Value.formed,Value.cells,underlying208]
  rw[d]at h;exact func_of_trod (q:=y.2) underlying208 a (h.trans (by rw[<- c]))
 .cases h
def O0{w:World}(h:funcsAt prog w "monocle/sequence.others" Qq):Ap w 2 w yE:=by
 refine Gl (e:=83) (D:=D3) Tp Tq underlying128 (z:=.agg #[.string ⟨#[]⟩,oZ,.nilFunc]) (by kernel_rfl) Qs h (fun s b=>?_) (fun s b=>?_) (fun s n v y d hat=>?_)
 .unfold yE
  rw[aj (fun e=>by subst e;exact AV (x:=_) fun a=>(b a).symm),aj (fun e=>by subst e;exact AV (x:=_) fun a=>(b a).symm)]
 .unfold yE
  rw[aj (fun e=>by subst e;revert b;decide),aj (fun e=>by subst e;revert b;decide)]
 .unfold yE
  by_cases h1:s=lB
  .subst h1
   rw[aq rfl,CS (f0:=295) YA d (hat .nil).symm]
  .by_cases h2:s=kj
   .subst h2
    rw[aj h1,aq rfl,CS (f0:=296) YA d (hat .nil).symm]
   .refine(AV (x:=y.1) fun a=>?_).elim
    .rw[<- hat a]
     refine(Gk (fun p c=>?_) a).symm;unfold D3 at c;simp only[aS,bi,cR]at c
     obtain rfl|rfl:=c
     .rw[AU];exact aw fun e=>h1 e.symm
     .rw[AU];exact aw fun e=>h2 e.symm
def pw{s:List UInt8}{k:Nat}(h:kV.findIdx? (· ==s)=some k):Fv s=some (.func (.func (RB k)) #[] #[]):=by unfold Fv;rw[h];rfl
def JV{s:List UInt8}(h:∀x∈kV,x≠s):Fv s=none:=by
 unfold Fv;rw[vC (fun y a=>ak.2 (h y a))];rfl
def Gm{s:List UInt8}(h:¬ ∀x∈kV,x≠s):s=xZ\/s=sO\/s=vA\/s=Aa\/s=qJ\/s=vB\/s=Ab\/s=nq\/s=mc\/s=Fp:=by
 unfold kV at h;simp only[aS,bi,cR,ne_eq,fE,forall_eq]at h
 refine Classical.byContradiction fun a=>h ?_
 simp only[not_or]at a;refine⟨fun e=>a.1 e.symm,fun e=>a.2.1 e.symm,fun e=>a.2.2.1 e.symm,fun e=>a.2.2.2.1 e.symm,fun e=>a.2.2.2.2.1 e.symm,fun e=>a.2.2.2.2.2.1 e.symm,fun e=>a.2.2.2.2.2.2.1 e.symm,fun e=>a.2.2.2.2.2.2.2.1 e.symm,fun e=>a.2.2.2.2.2.2.2.2.1 e.symm,fun e=>a.2.2.2.2.2.2.2.2.2 e.symm⟩
def O3{w:World}(h:funcsAt prog w "monocle/sequence.readers" Qr):Ap w 4 w Fv:=by
 refine Gl (e:=208) (D:=D4) Tr Ts underlying209 (z:=.nilFunc) (by kernel_rfl) Qt h (fun s f=>?_) (fun s f=>?_) (fun s n v y a hat=>?_)
 .refine JV fun x b e=>?_
  subst e;unfold kV at b;simp only[aS,bi,cR]at b
  obtain rfl|rfl|rfl|rfl|rfl|rfl|rfl|rfl|rfl|rfl:=b<;>exact AV (x:=_) fun c=>(f c).symm
 .refine JV fun x b e=>?_
  subst e;unfold kV at b;simp only[aS,bi,cR]at b
  obtain rfl|rfl|rfl|rfl|rfl|rfl|rfl|rfl|rfl|rfl:=b<;>(revert f;decide)
 .by_cases g:∀x∈kV,x≠s
  .refine(AV (x:=y.1) fun c=>?_).elim
   .rw[<- hat c]
    refine(Gk (fun p d=>?_) c).symm;unfold D4 at d;simp only[aS,bi,cR]at d
    obtain rfl|rfl|rfl|rfl|rfl|rfl|rfl|rfl|rfl|rfl:=d
    all_goals(rw[AU];exact aw (g _ (by decide)))
  .obtain rfl|rfl|rfl|rfl|rfl|rfl|rfl|rfl|rfl|rfl:=Gm g
   .rw[pw (k:=0) (by decide+kernel),pq (f0:=RB 0) YA a (hat .nil).symm]
   .rw[pw (k:=1) (by decide+kernel),pq (f0:=RB 1) YA a (hat .nil).symm]
   .rw[pw (k:=2) (by decide+kernel),pq (f0:=RB 2) YA a (hat .nil).symm]
   .rw[pw (k:=3) (by decide+kernel),pq (f0:=RB 3) YA a (hat .nil).symm]
   .rw[pw (k:=4) (by decide+kernel),pq (f0:=RB 4) YA a (hat .nil).symm]
   .rw[pw (k:=5) (by decide+kernel),pq (f0:=RB 5) YA a (hat .nil).symm]
   .rw[pw (k:=6) (by decide+kernel),pq (f0:=RB 6) YA a (hat .nil).symm]
   .rw[pw (k:=7) (by decide+kernel),pq (f0:=RB 7) YA a (hat .nil).symm]
   .rw[pw (k:=8) (by decide+kernel),pq (f0:=RB 8) YA a (hat .nil).symm]
   .rw[pw (k:=9) (by decide+kernel),pq (f0:=RB 9) YA a (hat .nil).symm]
def SW{w:World}(f:14<=w.heap.size)(h:laidMetH prog pS w):TW w w:=by
 have e:=vK h
 have b:("monocle/sequence.params",DataW.iface "func table" Qo) ∈pS:=by
  rw[show DataW.iface "func table" Qo=Rows.laid_monocle_sequence_params by kernel_rfl];simp
 have c:("monocle/sequence.others",DataW.iface "func table" Qq) ∈pS:=by
  rw[show DataW.iface "func table" Qq=Rows.laid_monocle_sequence_others by kernel_rfl];simp
 have d:("monocle/sequence.readers",DataW.iface "func table" Qr) ∈pS:=by
  rw[show DataW.iface "func table" Qr=Rows.laid_monocle_sequence_readers by kernel_rfl];simp
 have a:=e.tail.tail.tail.tail.tail.tail.tail;exact⟨f,OZ (h.funcs b),AT Tn To (l:=kV) (by decide) a.tail,O0 (h.funcs c),O3 (h.funcs d),AT Tl Tm (l:=kP) (by decide) a⟩
def SX{w:World}(a:w.ShapedOpen prog)(h:laidMetH prog pS w):KW w:=
 ⟨SV a (vK h),Bt (vK h).tail.tail.tail.tail.tail.tail,SW (AS a) h⟩

import Derived.Test.YtgohdcccfkjooaaGreatDoorQAA
namespace Go.Proofs.YtgohdcccfkjooaaGreatDoor
set_option linter.all false
set_option maxRecDepth 100000
set_option maxHeartbeats 1600000
open Go.RowKit Go.Proofs.Tryz
section
variable{P:Program}{ops:Array Oper}{Q:Exit->Act->World->Prop}{md:Region.Mode}
def MC{j:Nat}{g:Oper}{d:Tmp}{u:Value}(t:ops[j]? =some g)(h1:d ∉ g.looksAt ops)(h2:g.dst≠some d)
 (o:∀cs b,g.op≠ .select cs b)(s:∀c a w,Q (.panic c) a w->Q (.panic c) (a.put (some d) u) w){K q:Act->World->Prop}{a:Act}{w:World}
 (l:∀a' w',K a' w'->q (a'.put (some d) u) w')(h:wpOp P ops Q j K a w):wpOp P ops Q j q (a.put (some d) u) w:=by
 have m:∀e,some d=some e->e ∉ g.looksAt ops:=fun e k=>by cases k;exact h1
 have i:∀e,(some d:Option Tmp)=some e->g.dst≠some e:=fun e k=>by cases k;exact h2
 unfold wpOp at*;simp only[t]at*;rw[wanted_put g a (some d) u m];split
 .rename_i hw
  simp only[hw,bX]at h
  obtain h|⟨hasks,hlets⟩:=h
  case inr=>exact .inr ⟨by unfold Oper.asks at*;rw[execOp_put g o a (some d) u m];exact hasks,hlets⟩
  refine .inl ?_;unfold Oper.wp at*;rw[execOp_put g o a (some d) u m];generalize(execOp a.eval g).run P w=r at*
  cases r with
  |ok n w'=>
   cases n<;>simp only[Oper.upon]at h⊢
   case value v=>rw[Act.put_comm a u v i];exact l _ _ h
   case skip=>rw[Act.put_comm a u undef i];exact l _ _ h
   case defer e=>
    rw[Act.put_defers,Act.put_comm _ u undef i];exact l _ _ h
   case enter f args=>
    refine Calls.mono h fun e p k=>?_
    cases e with
    |returned v=>
     show q ((a.put (some d) u).put g.dst v) p
     rw[Act.put_comm a u v i];exact l _ _ k
    |panicked c=>exact s _ _ _ k
    |outgrown=>exact k
   case row row args=>exact Rows.mono h fun v p k=>by rw[Act.put_comm a u v i];exact l _ _ k
  |halt x w'=>
   cases x<;>simp only[Oper.upon]at h⊢
   case panic v=>exact s _ _ _ h
 .rename_i hw
  simp only[hw]at h;rw[Act.put_comm a u undef i];exact l _ _ h
def J5{x y:Oper}{d:Tmp}(a:x.dst=some d)(h:x.apart ops y=true):d ∉ y.looksAt ops/\y.dst≠some d:=
 let⟨h1,h2,_⟩:=Oper.apart_spec h;⟨h1 d a,h2 d a⟩
end
section
variable{P:Program}{ops:Array Oper}{Q:Exit->Act->World->Prop}{md:Region.Mode}
def uR(l:Array Bool)(k):(l.setIfInBounds k true).getD k true=true:=by
 rw[eD,Array.getElem?_setIfInBounds,aq rfl];split<;>rfl
def nA:List (Nat×Tmp×Obj)->List (Option Nat)->Act->Act
 |(_,d,_)::fs,some b::os,a=>nA fs os (a.put (some d) (.pointer (J b)))
 |_::fs,none::os,a=>nA fs os a
 |_,_,a=>a
def lV:List (Nat×Tmp×Obj)->List (Option Nat)->Array Bool->Array Bool
 |(k,_,_)::fs,some _::os,l=>lV fs os (l.setIfInBounds k true)
 |_::fs,none::os,l=>lV fs os l
 |_,_,l=>l
def nf(k):∀(fs:List (Nat×Tmp×Obj))(os:List (Option Nat))(l:Array Bool),lV fs os (l.setIfInBounds k true)=(lV fs os l).setIfInBounds k true
 |[],_,_=>by simp[lV]
 |_::_,[],_=>by simp[lV]
 |(k',d,Zq0)::fs,none::os,l=>by simp only[lV];exact nf k fs os l
 |(k',d,Zq0)::fs,some b::os,l=>by
  simp only[lV]
  by_cases h:k=k'
  .subst h
   rw[<- nf k fs os]
  .rw[cC _ _ h,nf k fs os]
def vP{x v}:∀(fs:List (Nat×Tmp×Obj))(os:List (Option Nat))(a:Act),(∀f∈fs,x≠some f.2.1)->nA fs os (a.put x v)=(nA fs os a).put x v
 |[],_,_,_=>by simp[nA]
 |_::_,[],_,_=>by simp[nA]
 |(k',d,Zq0)::fs,none::os,a,h=>by simp only[nA];exact vP fs os a (fun f hf=>h f (au _ hf))
 |(k',d,Zq0)::fs,some b::os,a,h=>by
  simp only[nA];have:=h _ (aG ..);rw[Act.put_comm a (x:=x) (y:=some d) v _ (fun e c=>by rw[c]at this;exact fun h=>this h.symm),vP fs os _ (fun f hf=>h f (au _ hf))]
def wQ{b}:∀(fs:List (Nat×Tmp×Obj))(os:List (Option Nat))(a:Act)(j:Nat)(f:Nat×Tmp×Obj),fs[j]? =some f->os[j]? =some none->(fs.map fun f=>f.2.1).Nodup->
 nA fs (os.set j (some b)) a=(nA fs os a).put (some f.2.1) (.pointer (J b))
 |[],_,_,_,_,h,_,_=>by simp at h
 |_::_,[],_,_,_,_,h,_=>by simp at h
 |(k',d,Zq0)::fs,o::os,a,0,f,h1,h2,hn=>by
  simp at h1 h2;subst h1 h2;simp only[aZ,nA];refine vP fs os a (fun f hf e=>?_);simp only[aN,List.nodup_cons]at hn;exact hn.1 (cP.2 ⟨f,hf,by cases e;rfl⟩)
 |(k',d,Zq0)::fs,o::os,a,j+1,f,h1,h2,hn=>by
  simp only[cS]at h1 h2;simp only[aN,List.nodup_cons]at hn;simp only[aW]
  cases o with
  |none=>simp only[nA];exact wQ fs os a j f h1 h2 hn.2
  |some c=>simp only[nA];exact wQ fs os _ j f h1 h2 hn.2
def us{b}:∀(fs:List (Nat×Tmp×Obj))(os:List (Option Nat))(l:Array Bool)(j:Nat)(f:Nat×Tmp×Obj),fs[j]? =some f->os[j]? =some none->
 lV fs (os.set j (some b)) l=(lV fs os l).setIfInBounds f.1 true
 |[],_,_,_,_,h,_=>by simp at h
 |_::_,[],_,_,_,_,h=>by simp at h
 |(k',d,Zq0)::fs,o::os,l,0,f,h1,h2=>by
  simp at h1 h2;subst h1 h2;simp only[aZ,lV];exact nf k' fs os l
 |(k',d,Zq0)::fs,o::os,l,j+1,f,h1,h2=>by
  simp only[cS]at h1 h2;simp only[aW]
  cases o with
  |none=>simp only[lV];exact us fs os l j f h1 h2
  |some c=>simp only[lV];exact us fs os _ j f h1 h2
def qT(fs:List (Nat×Tmp×Obj))(l:Array Bool):Array Bool:=fs.foldl (fun l f=>l.setIfInBounds f.1 true) l
def vQ{j:Nat}:∀(fs:List (Nat×Tmp×Obj))(os:List (Option Nat))(l:Array Bool),(∀(i b:Nat)(f:Nat×Tmp×Obj),fs[i]? =some f->os[i]? =some (some b)->j≠f.1)->j∈Region.ready md ops l->j∈Region.ready md ops (lV fs os l)
 |[],_,_,_,h=>by simpa[lV]using h
 |_::_,[],_,_,h=>by simpa[lV]using h
 |(k,d,Zq0)::fs,none::os,l,hn,h=>by simp only[lV];exact vQ fs os l (fun i b f h1 h2=>hn (i+1) b f (by simpa using h1) (by simpa using h2)) h
 |(k,d,Zq0)::fs,some b::os,l,hn,h=>by
  simp only[lV];exact vQ fs os _ (fun i b f h1 h2=>hn (i+1) b f (by simpa using h1) (by simpa using h2)) (ready_mono h (hn 0 b (k,d,Zq0) rfl rfl))
def vk{b}:∀(fs:List (Nat×Tmp×Obj))(os:List (Option Nat))(l:Array Bool)(j:Nat)(f:Nat×Tmp×Obj),fs[j]? =some f->os[j]? =some (some b)->(lV fs os l).getD f.1 true=true
 |[],_,_,_,_,h,_=>by simp at h
 |_::_,[],_,_,_,_,h=>by simp at h
 |(k',d,Zq0)::fs,o::os,l,0,f,h1,h2=>by
  simp at h1 h2;subst h1 h2;simp only[lV,nf];exact uR _ _
 |(k',d,Zq0)::fs,o::os,l,j+1,f,h1,h2=>by
  simp only[cS]at h1 h2
  cases o with
  |none=>simp only[lV];exact vk fs os l j f h1 h2
  |some c=>simp only[lV];exact vk fs os _ j f h1 h2
def ut(k):∀(fs:List (Nat×Tmp×Obj))(l:Array Bool),qT fs (l.setIfInBounds k true)=(qT fs l).setIfInBounds k true
 |[],_=>rfl
 |(k',d,Zq0)::fs,l=>by
  show qT fs ((l.setIfInBounds k true).setIfInBounds k' true)=(qT fs (l.setIfInBounds k' true)).setIfInBounds k true
  by_cases h:k=k'
  .subst h
   rw[<- ut k fs]
  .rw[cC _ _ h,ut k fs]
def se{j:Nat}:∀(fs:List (Nat×Tmp×Obj))(os:List (Option Nat))(l:Array Bool),(∀f∈fs,j≠f.1)->j∈Region.ready md ops (lV fs os l)->j∈Region.ready md ops (qT fs l)
 |[],_,_,_,h=>by simpa[lV,qT]using h
 |(k,d,Zq0)::fs,[],l,hn,h=>by
  show j∈Region.ready md ops (qT fs (l.setIfInBounds k true))
  rw[ut];exact ready_mono (se fs [] l (fun f hf=>hn f (au _ hf)) (by cases fs<;>simpa[lV]using h)) (hn _ (aG ..))
 |(k,d,Zq0)::fs,none::os,l,hn,h=>by
  show j∈Region.ready md ops (qT fs (l.setIfInBounds k true))
  rw[ut];exact ready_mono (se fs os l (fun f hf=>hn f (au _ hf)) h) (hn _ (aG ..))
 |(k,d,Zq0)::fs,some b::os,l,hn,h=>se fs os _ (fun f hf=>hn f (au _ hf)) h
def Eb:∀(fs:List (Nat×Tmp×Obj))(bs:List Nat)(l:Array Bool),bs.length=fs.length->lV fs (bs.map some) l=qT fs l
 |[],[],_,_=>rfl
 |[],b::bs,_,h=>by simp at h
 |f::fs,[],_,h=>by simp at h
 |(k,d,Zq0)::fs,b::bs,l,h=>by
  show lV fs (bs.map some) (l.setIfInBounds k true)=qT fs (l.setIfInBounds k true)
  exact Eb fs bs _ (by simpa using h)
def MD(ops:Array Oper)(fs:List (Nat×Tmp×Obj))(o:Oper):Bool:=
 fs.all fun f=>match ops[f.1]? with|some ok=>decide (ok.dst=some f.2.1)&&ok.apart ops o|none=>false
def Gr{fs:List (Nat×Tmp×Obj)}{o:Oper}(h:MD ops fs o=true):∀f∈fs,f.2.1 ∉ o.looksAt ops/\o.dst≠some f.2.1:=fun f hf=>by
 have:=an.1 h f hf
 cases hk:ops[f.1]? with
 |none=>simp[hk]at this
 |some ok=>
  simp only[hk,am,aD]at this;exact J5 this.1 this.2
def tB(o:Oper)(c:∀cs b,o.op≠ .select cs b):∀(fs:List (Nat×Tmp×Obj))(os:List (Option Nat))(a:Act),(∀f∈fs,f.2.1 ∉ o.looksAt ops)->
 execOp (nA fs os a).eval o=execOp a.eval o/\Region.wanted o (yielded ops (nA fs os a).tmps)=Region.wanted o (yielded ops a.tmps)
 |[],_,_,_=>by simp[nA]
 |_::_,[],_,_=>by simp[nA]
 |(k',d,Zq0)::fs,none::os,a,h=>by simp only[nA];exact tB o c fs os a (fun f hf=>h f (au _ hf))
 |(k',d,Zq0)::fs,some b::os,a,h=>by
  simp only[nA];obtain⟨h1,h2⟩:=tB o c fs os (a.put (some d) (.pointer (J b))) (fun f hf=>h f (au _ hf));have i:=h _ (aG ..);exact⟨h1.trans (execOp_put o c a (some d) _ (fun e g=>by cases g;exact i)),h2.trans (wanted_put o a (some d) _ (fun e g=>by cases g;exact i))⟩
def wR{j:Nat}{k:Oper}(o:ops[j]? =some k)(i:∀cs b,k.op≠ .select cs b)(n:∀c a d u w,Q (.panic c) a w->Q (.panic c) (a.put (some d) u) w):
 ∀(fs:List (Nat×Tmp×Obj))(os:List (Option Nat)){K l:Act->World->Prop}{a:Act}{w:World},(∀f∈fs,f.2.1 ∉ k.looksAt ops/\k.dst≠some f.2.1)->
 (∀a' w',K a' w'->l (nA fs os a') w')->wpOp P ops Q j K a w->wpOp P ops Q j l (nA fs os a) w
 |[],_,_,_,_,_,_,hK,h=>by simp only[nA]at*;exact wpOp_mono hK h
 |_::_,[],_,_,_,_,_,hK,h=>by simp only[nA]at*;exact wpOp_mono hK h
 |(k',d,Zq0)::fs,none::os,_,_,_,_,hap,hK,h=>by
  simp only[nA]at*;exact wR o i n fs os (fun f hf=>hap f (au _ hf)) hK h
 |(k',d,Zq0)::fs,some b::os,K,l,a,w,hap,hK,h=>by
  simp only[nA]at*;obtain⟨p1,p⟩:=hap _ (aG ..);refine wR (K:=fun a' w'=>∃g,a'=g.put (some d) (.pointer (J b))/\K g w') o i n fs os (fun f hf=>hap f (au _ hf)) (fun a' w' ⟨g,e,m⟩=>by subst e;exact hK g w' m) ?_;exact MC o p1 p i (fun c a w=>n c a d _ w) (fun a' w' m=>⟨a',rfl,m⟩) h
def yG(md:Region.Mode)(ops:Array Oper)(j i:Nat):Bool:=match ops[j]? with|some o=>o.after.any fun e=>Region.binds md e&&e.on==i|none=>false
def ME(md:Region.Mode)(ops:Array Oper)(j i:Nat):Bool:=
 yG md ops j i||(match ops[j]? with|some o=>o.after.any fun e=>Region.binds md e&&yG md ops e.on i|none=>false)
def MF(md:Region.Mode)(ops:Array Oper)(n:Nat)(a:List Nat):Bool:=
 (List.range ops.size).all fun j=>decide (j<n)||((List.range n).all fun i=>a.contains i||ME md ops j i)
def uS{i j:Nat}{a:Array Bool}(h:yG md ops j i=true)(f:∀b,ops[j]? =some b-> ∀e∈b.after,Region.binds md e=true->a.getD e.on false=true):a.getD i false=true:=by
 unfold yG at h
 cases ho:ops[j]? with
 |none=>simp[ho]at h
 |some o=>
  rw[ho]at h;obtain⟨e,d,h3⟩:=Array.any_eq_true'.1 h;simp only[am,dz]at h3;have c:=f o ho e d h3.1
  rwa[h3.2]at c
def xD{n i:Nat}{m:List Nat}(t:MF md ops n m=true)(h:i<n)(r:m.contains i=false){a:Array Bool}(l:HeadInv md ops ops.size a)(k:a.getD i true=false)(j:Nat)(u:n<=j):j ∉ Region.ready md ops a:=fun s=>by
 obtain⟨_,v,c,b⟩:=mem_ready.1 s;have hlt:j<ops.size:=(cu.1 c).1;have h1:=an.1 t j (aJ.2 hlt);simp only[dN,aD]at h1
 obtain h1|h1:=h1
 .omega
 have h2:=an.1 h1 i (aJ.2 h);rw[r,Bool.false_or]at h2;unfold ME at h2
 have q:∀o,ops[j]? =some o-> ∀e∈o.after,Region.binds md e=true->a.getD e.on false=true:=fun o d e g p=>by
  rw[c]at d;cases d;exact b e g p
 have f:a.getD i false=true:=by
  obtain h2|h2:=dN _ _▸h2
  .exact uS h2 q
  .rw[c]at h2
   obtain⟨e,g,h3⟩:=Array.any_eq_true'.1 h2;simp only[am]at h3;exact uS h3.2 (fun o d=>l.closed e.on o d (b e g h3.1))
 rw[getD_both k]at f;cases f
def YieldsIf.stayP{b:Bool}{o:Oper}{v:Value}{a:Act}{w w':World}(h:YieldsIf P ops (fun x=>b=true\/Below w w x) o v a)(c:b=true\/Below w w w'):
 YieldsIf P ops (fun x=>b=true\/Below w' w' x) o v a:=
 h.imp (fun⟨h1,h2⟩=>⟨h1,fun x d=>h2 x (by
  obtain c|c:=c
  .exact Or.inl c
  .obtain d|d:=d
   .exact Or.inl d
   .exact Or.inr (c.trans (d.mono c.size)))⟩) id
def Gs{n i:Nat}{r:Oper}{v:Value}{g:Bool}(hi:ops[i]? =some r)(y:∀(j:Nat)(o:Oper) cs b,ops[j]? =some o->o.op≠ .select cs b)
 (B:g=false-> ∀d:Array Bool,HeadInv md ops ops.size d->d.getD i true=false-> ∀j,n<=j->j ∉ Region.ready md ops d)
 (R:∀c a w,Q (.panic c) (a.put r.dst v) w->Q (.panic c) a w):
 ∀(fuel:Nat)(d:Array Bool)(a:Act)(w:World),HeadInv md ops ops.size d->
  (∀j s,ops[j]? =some s->j≠i->d.getD j true=false->(∀e∈s.after,Region.binds md e=true->e.on≠i)->r.apart ops s=true)->
  i∈Region.ready md ops d->YieldsIf P ops (fun x=>g=true\/Below w.heap.size w x) r v a->
  Pb P md ops Q n fuel (d.setIfInBounds i true) (a.put r.dst v) w->Pb P md ops Q n (fuel+1) d a w:=by
 intro fuel
 induction fuel with
 |zero=>
  intro d a w _ _ q E H;refine⟨fun h=>(by rw[h]at q;cases q),fun j z=>?_⟩
  by_cases f:j=i
  .subst f;exact E.wpOp hi (Or.inr (TH _ _)) ⟨fun _=>TH _ _,H⟩
  .have:=ready_mono z f
   rw[H.1]at this;cases this
 |succ fuel X=>
  intro d a w K l q E H;have p:=(mem_ready.1 q).1;refine⟨fun h=>(by rw[h]at q;cases q),fun j z=>?_⟩
  by_cases f:j=i
  .subst f;exact E.wpOp hi (Or.inr (TH _ _)) ⟨fun _=>TH _ _,H⟩
  .have h1:=H.2 j (ready_mono z f)
   obtain⟨t,s,u,C⟩:=mem_ready.1 z
   have D:∀e∈s.after,Region.binds md e=true->e.on≠i:=fun e T S L=>by
    have h1:=C e T S;rw[L,getD_both p]at h1;cases h1
   have h2:=wpOp_putIf u (l j s u f t D) (fun cs b=>y i r cs b hi) (fun cs b=>y j s cs b u) R E h1
   have m:∀k ok,ops[k]? =some ok->k≠i->(d.setIfInBounds j true).getD k true=false->
    (∀e∈ok.after,Region.binds md e=true->e.on≠i)->r.apart ops ok=true:=fun k ok W M p N=>by
    refine l k ok W M ?_ N
    by_cases F:j=k
    .subst F;exact t
    .rw[getD_set_ne true F]at p;exact p
   have A:∀w',(j<n->Below w.heap.size w w')->(g=true\/Below w.heap.size w w'):=fun w' hw=>by
    cases hpu:g with
    |true=>exact Or.inl rfl
    |false=>
     refine Or.inr (hw ?_)
     obtain h|h:=dC j n
     .exact h
     .exact absurd z (B hpu d K p j h)
   refine wpOp_mono (fun a' w' h3=>⟨h3.2.1,X (d.setIfInBounds j true) a' w' (K.set z (cu.1 u).1) m (ready_mono q (fu f)) (YieldsIf.stayP h3.1 (A w' h3.2.1)) ?_⟩) h2;rw[cC _ _ f];exact h3.2.2
def Bx(P:Program)(ops:Array Oper)(Q:Exit->Act->World->Prop)(n:Nat)(c:List Nat)(fs:List (Nat×Tmp×Obj)):(Nat->Prop)->List (Nat×Bool)->Act->World->Prop
 |C,[],a,w=>∀(bs:List Nat) w',bs.length=fs.length->(∀(j b:Nat)(f:Nat×Tmp×Obj),bs[j]? =some b->fs[j]? =some f->C b/\w'.heap[b]? =some f.2.2)->(∀(i j b:Nat),bs[i]? =some b->bs[j]? =some b->i=j)->Below w w w'->
   wpList P ops Q (ops.toList.drop n) (nA fs (bs.map some) a) w'
 |C,(i,true)::rest,a,w=>∃o v,ops[i]? =some o/\YieldsIf P ops (fun x=>c.contains i=true\/Below w w x) o v a/\Bx P ops Q n c fs C rest (a.put o.dst v) w
 |C,(i,false)::rest,a,w=>∀x,Below w w x->wpOp P ops Q i (fun a' w'=>Below x.heap.size x w'/\Bx P ops Q n c fs (fun b=>C b/\(b<x.heap.size\/w'.heap.size<=b)) rest a' w') a x
def xE(md:Region.Mode)(ops:Array Oper)(n:Nat)(fs:List (Nat×Tmp×Obj)):List (Nat×Bool)->Array Bool->Bool
 |[],listed=>Region.seqB md ops (ops.size-n) n (qT fs listed)
 |(i,t)::rest,listed=>
  (Region.ready md ops listed).contains i&& (if t then Region.free md ops listed i else decide (Region.ready md ops (qT fs listed)=[i]))&&
  decide (i<n)&& (fs.all fun f=>decide (i≠f.1))&& (match ops[i]? with|some o=>MD ops fs o|none=>false)&&xE md ops n fs rest (listed.setIfInBounds i true)
def Sk(C:Nat->Prop)(x:World)(fs:List (Nat×Tmp×Obj))(os:List (Option Nat)):Prop:=
 os.length=fs.length/\(∀(j b:Nat)(f:Nat×Tmp×Obj),os[j]? =some (some b)->fs[j]? =some f->C b/\x.heap[b]? =some f.2.2)/\(∀(i j b:Nat),os[i]? =some (some b)->os[j]? =some (some b)->i=j)
def Gt{i:Nat}{m:Oper}{a:Array Bool}(h:∀j c,ops[j]? =some c->j≠i->a.getD j true=false->(∀e∈c.after,Region.binds md e=true->e.on≠i)->m.apart ops c=true):
 ∀(fs:List (Nat×Tmp×Obj))(os:List (Option Nat)),∀j c,ops[j]? =some c->j≠i->(lV fs os a).getD j true=false->(∀e∈c.after,Region.binds md e=true->e.on≠i)->m.apart ops c=true
 |[],_=>by simpa[lV]using h
 |_::_,[]=>by simpa[lV]using h
 |(k,d,Zq0)::fs,none::os=>by simp only[lV];exact Gt h fs os
 |(k,d,Zq0)::fs,some b::os=>fun j c o l f n=>by
  simp only[lV,nf]at f;refine Gt h fs os j c o l ?_ n
  by_cases g:k=j
  .subst g;rw[uR]at f;cases f
  .rwa[getD_set_ne true g]at f
def ql(os:List (Option Nat)):Nat:=os.countP fun o=>o.isNone
def yX{b}:∀(os:List (Option Nat))(j:Nat),os[j]? =some none->ql (os.set j (some b))+1=ql os
 |[],_,h=>by simp at h
 |o::os,0,h=>by
  simp at h;subst h;simp[ql]
 |o::os,j+1,h=>by
  have:=yX (b:=b) os j (by simpa using h);unfold ql at*;rw[aW,fI,fI];omega
def yY:∀(os:List (Option Nat)),ql os=0-> ∃bs:List Nat,os=bs.map some
 |[],_=>⟨[],rfl⟩
 |none::os,h=>by simp[ql]at h
 |some b::os,h=>by
  obtain⟨bs,e⟩:=yY os (by simpa[ql]using h);exact⟨b::bs,by rw[e];rfl⟩
def By:∀(os:List (Option Nat)),ql os≠0-> ∃j:Nat,os[j]? =some none
 |[],h=>by simp[ql]at h
 |none::os,h=>⟨0,rfl⟩
 |some b::os,h=>by
  obtain⟨j,e⟩:=By os (by simpa[ql]using h);exact⟨j+1,by simpa using e⟩
def Qv(P:Program)(ops:Array Oper)(n:Nat)(fs:List (Nat×Tmp×Obj)):Prop:=
 (fs.map fun f=>f.2.1).Nodup/\(fs.map fun f=>f.1).Nodup/\ ∀f∈fs,f.1<n/\ ∃ok,ops[f.1]? =some ok/\ok.dst=some f.2.1/\ok.guard=none/\ ∀(a:Act)(w:World),(execOp a.eval ok).run P w=.ok (.value (.pointer (J (w.heap.size)))) (w.alloc f.2.2)
def Bz{fs:List (Nat×Tmp×Obj)}(h:(fs.map fun f=>f.1).Nodup){i j:Nat}{f g}(hi:fs[i]? =some f)(a:fs[j]? =some g)(e:f.1=g.1):i=j:=by
 have h1:i<(fs.map fun f=>f.1).length:=by have:=(TG.1 hi).1;simpa using this
 have h2:(fs.map fun f=>f.1)[i]? =(fs.map fun f=>f.1)[j]? :=by
  rw[aR,aR,hi,a];simp[e]
 exact(List.getElem?_inj h1 h).1 h2
def MG{n:Nat}{pu:List Nat}{fs:List (Nat×Tmp×Obj)}(b4:Qv P ops n fs)(b3:∀f∈fs,pu.contains f.1=false)(L:Region.noSelect ops=true)(hs:MF md ops n pu=true)(hn:n<=ops.size)
 (hQ:∀c a d u w,Q (.panic c) a w->Q (.panic c) (a.put (some d) u) w)(b2:∀c a o u w,Q (.panic c) (a.put o u) w->Q (.panic c) a w):
 ∀(m:Nat)(ord:List (Nat×Bool))(C:Nat->Prop)(q:Array Bool)(os:List (Option Nat))(a:Act)(w x:World),m=ord.length+ql os->Sk C x fs os->(∀b,x.heap.size<=b->C b)->HeadInv md ops ops.size (lV fs os q)->
  (∀(j:Nat)(f:Nat×Tmp×Obj),fs[j]? =some f->f.1∈Region.ready md ops q)->xE md ops n fs ord q=true->Bx P ops Q n pu fs C ord a w->
  Below w.heap.size w x->Pb P md ops Q n (m+(ops.size-n)) (lV fs os q) (nA fs os a) x:=by
 obtain⟨b6,b0,W⟩:=b4;intro m
 induction m with
 |zero=>
  intro ord C q os a w x hm r M K R hB h T;obtain⟨bs,rfl⟩:=yY os (by omega);obtain rfl:ord=[]:=aX.1 (by omega)
  have a0:bs.length=fs.length:=by simpa using r.1
  rw[Eb fs bs q a0]
  have:=vh (md:=md) (n:=n) (Q':=Q) (ops.toList.drop n) n (qT fs q) _ x (aa _) (fun j=>by simp[cp]) (by simpa[xE]using hB)
   (h bs x a0 (fun j b f h1 h2=>r.2.1 j b f (by simp[h1]) h2) (fun i j b h1 h2=>r.2.2 i j b (by simp[h1]) (by simp[h2])) T)
  simpa using this
 |succ m ih=>
  intro ord C q os a w x hm r M K R hB h T
  have H:∀(j:Nat)(f:Nat×Tmp×Obj),fs[j]? =some f->os[j]? =some none->
   wpOp P ops Q f.1 (fun a' w'=>(f.1<n->Below x x w')/\Pb P md ops Q n (m+(ops.size-n)) ((lV fs os q).setIfInBounds f.1 true) a' w') (nA fs os a) x:=by
   intro j f A s;obtain⟨c1,ok,b1,hd,hg,a7⟩:=W f (aL A);have z:Below x x (x.alloc f.2.2):=(TH _ _).alloc (aa _) _
   have hw:Region.wanted ok (yielded ops (nA fs os a).tmps)=true:=by simp[Region.wanted,hg]
   unfold wpOp;simp only[b1,hw,bX,Oper.wp,a7,Oper.upon,hd];refine .inl ⟨fun _=>z,?_⟩
   have b8:f.1∈Region.ready md ops (lV fs os q):=vQ fs os q (fun i b g h1 h2 e=>by
    obtain rfl:=Bz b0 h1 A e.symm
    rw[s]at h2;cases h2) (R j f A)
   have B:=ih ord C q (os.set j (some x)) a w (x.alloc f.2.2) (by have:=yX (b:=x.heap.size) os j s;omega) ?_ (fun b X=>M b (af z.size X)) (by rw[us fs os q j f A s];exact K.set b8 (cu.1 b1).1) R hB h (T.trans (z.mono T.size))
   .rwa[us fs os q j f A s,wQ fs os a j f A s b6]at B
   .refine⟨by simpa using r.1,fun i b g h1 h2=>?_,fun i i' b h1 h2=>?_⟩
    .rw[cF]at h1
     split at h1
     .rename_i e;subst e
      split at h1
      .cases h1
       rw[A]at h2;cases h2;exact⟨M _ (aa _),TL _ _⟩
      .cases h1
     .obtain⟨h3,S⟩:=r.2.1 i b g h1 h2
      exact⟨h3,(z.block b (TK S)).trans S⟩
    .have hlt:∀(i b:Nat),os[i]? =some (some b)->b<x.heap.size:=fun i b h3=>by
      have h5:i<fs.length:=by rw[<- r.1];exact(TG.1 h3).1
      exact TK (r.2.1 i b fs[i] h3 (ae h5)).2
     rw[cF]at h1 h2;split at h1<;>split at h2
     .omega
     .split at h1
      .cases h1;have:=hlt _ _ h2;omega
      .cases h1
     .split at h2
      .cases h2;have:=hlt _ _ h1;omega
      .cases h2
     .exact r.2.2 i i' b h1 h2
  have F:∀j∈Region.ready md ops (lV fs os q),(∃(i:Nat)(f:Nat×Tmp×Obj),fs[i]? =some f/\os[i]? =some none/\j=f.1)\/((∀f∈fs,j≠f.1)/\j∈Region.ready md ops (qT fs q)):=by
   intro j A
   by_cases hk:∃f∈fs,j=f.1
   .obtain⟨f,hf,rfl⟩:=hk
    obtain⟨i,hi⟩:=List.getElem?_of_mem hf
    have hlt:i<os.length:=by rw[r.1];exact(TG.1 hi).1
    cases s:os[i]? with
    |none=>rw[List.getElem?_eq_none_iff]at s;omega
    |some o=>
     cases o with
     |none=>exact Or.inl ⟨i,f,hi,s,rfl⟩
     |some b=>
      have h1:=vk fs os q i f hi s;have h2:=(mem_ready.1 A).1;rw[h1]at h2;cases h2
   .have a9:∀f∈fs,j≠f.1:=fun f hf e=>hk ⟨f,hf,e⟩
    exact Or.inr ⟨a9,se fs os q a9 A⟩
  have a4:ql os≠0-> ∃(i:Nat)(f:Nat×Tmp×Obj),fs[i]? =some f/\os[i]? =some none/\f.1∈Region.ready md ops (lV fs os q):=fun hp=>by
   obtain⟨i,s⟩:=By os hp
   have hlt:i<fs.length:=by rw[<- r.1];exact(TG.1 s).1
   refine⟨i,fs[i],ae hlt,s,vQ fs os q (fun i' b g h1 h2 e=>?_) (R i _ (ae hlt))⟩;obtain rfl:=Bz b0 h1 (ae hlt) e.symm;rw[s]at h2;cases h2
  cases ord with
  |nil=>
   have hp:ql os≠0:=by simp at hm;omega
   obtain⟨i0,f0,a8,c2,a6⟩:=a4 hp;have D:=hB;rw[show m+1+(ops.size-n)=m+(ops.size-n)+1 by omega];refine⟨fun h0=>(by rw[h0]at a6;cases a6),fun j A=>?_⟩
   obtain ⟨i,f,hi,s,rfl⟩|⟨_,E⟩:=F j A
   .exact H i f hi s
   .obtain hlt|hge:=dC n ops.size
    .obtain⟨k0,b5⟩:∃k0,ops.size-n=k0+1:=⟨ops.size-n-1,by omega⟩
     simp only[xE,b5,Region.seqB,am,aD]at D;rw[D.1]at E
     obtain rfl:j=n:=by simpa using E
     exact absurd A (xD hs (W f0 (aL a8)).1 (b3 f0 (aL a8)) K (mem_ready.1 a6).1 j (aa _))
    .simp only[xE,show ops.size-n=0 by omega,Region.seqB]at D
     rw[List.isEmpty_iff.1 D]at E;cases E
  |cons p a3=>
   obtain⟨i,t⟩:=p;have D:=hB
   cases s:ops[i]? with
   |none=>simp[xE,s]at hB
   |some o=>
   simp only[xE,am,aD,s]at D;obtain⟨⟨⟨⟨⟨h1,h2⟩,h3⟩,S⟩,h5⟩,h7⟩:=D
   have h1:i∈Region.ready md ops q:=by simpa using h1
   have S:∀f∈fs,i≠f.1:=fun f hf=>by simpa using an.1 S f hf
   have a5:=Gr h5;have N:i∈Region.ready md ops (lV fs os q):=vQ fs os q (fun _ _ f hf _=>S f (aL hf)) h1
   have a2:∀(j:Nat)(f:Nat×Tmp×Obj),fs[j]? =some f->f.1∈Region.ready md ops (q.setIfInBounds i true):=fun j f A=>ready_mono (R j f A) (fu (S f (aL A)))
   rw[show m+1+(ops.size-n)=m+(ops.size-n)+1 by omega]
   cases t with
   |true=>
    obtain⟨o',v,a1,hy,h⟩:=h
    obtain rfl:o=o':=by rw[s]at a1;cases a1;rfl
    simp only[bX]at h2;obtain⟨e1,e2⟩:=tB (ops:=ops) o (fun cs e=>Region.noSelect_spec L i o cs e s) fs os a (fun f hf=>(a5 f hf).1);have c0:YieldsIf P ops (fun y=>pu.contains i=true\/Below x x y) o v (nA fs os a):=(YieldsIf.stayP hy (Or.inr T)).of_same e1 e2;have B:=ih a3 C (q.setIfInBounds i true) os (a.put o.dst v) w x (by simp at hm;omega) r M (by rw[nf];exact K.set N (cu.1 s).1) a2 h7 h T;rw[nf,vP fs os a (fun f hf=>(a5 f hf).2)]at B;exact Gs s (Region.noSelect_spec L) (fun b7 l hl b9 j A=>xD hs h3 b7 hl b9 j A) (fun c a w=>b2 c a o.dst v w) _ _ _ x K (Gt (Region.free_spec s h2) fs os) N c0 B
   |false=>
    simp only[bC,de,aD]at h2;refine⟨fun h0=>(by rw[h0]at N;cases N),fun j A=>?_⟩
    obtain ⟨i',f,hi,a1,rfl⟩|⟨_,E⟩:=F j A
    .exact H i' f hi a1
    .rw[h2]at E
     obtain rfl:j=i:=by simpa using E
     refine wR s (fun cs e=>Region.noSelect_spec L j o cs e s) hQ fs os a5 (fun a' w' h'=>?_) (h x T);refine⟨fun _=>h'.1,?_⟩;have B:=ih a3 _ (q.setIfInBounds j true) os a' w' w' (by simp at hm;omega) ⟨r.1,fun k b f hk hf=>?_,r.2.2⟩ (fun b X=>⟨M b (af h'.1.size X),Or.inr X⟩) (by rw[nf];exact K.set N (cu.1 s).1) a2 h7 h'.2 (TH _ _)
     .rw[nf]at B;exact B
     .obtain⟨h8,h9⟩:=r.2.1 k b f hk hf
      have hlt:=TK h9;exact⟨⟨h8,Or.inl hlt⟩,(h'.1.block b hlt).trans h9⟩
def Jk(md:Region.Mode)(ops:Array Oper)(n:Nat)(a:List Nat)(fs:List (Nat×Tmp×Obj))(ord:List (Nat×Bool)):Bool:=
 Region.noSelect ops&&decide (n<=ops.size)&&decide (ord.length+fs.length=n)&&MF md ops n a&& (fs.all fun f=>(Region.ready md ops (Array.replicate ops.size false)).contains f.1&& !a.contains f.1)&&xE md ops n fs ord (Array.replicate ops.size false)
def wS:∀(fs:List (Nat×Tmp×Obj))(l:Array Bool),lV fs (fs.map fun _=>none) l=l
 |[],_=>rfl
 |_::fs,l=>wS fs l
def BA:∀(fs:List (Nat×Tmp×Obj))(a:Act),nA fs (fs.map fun _=>none) a=a
 |[],_=>rfl
 |_::fs,a=>BA fs a
def yZ:∀(fs:List (Nat×Tmp×Obj)),ql (fs.map fun _=>none)=fs.length
 |[]=>rfl
 |f::fs=>by
  have:=yZ fs;unfold ql at*;rw[aN,fI,this];rfl
def ic{id:Nat}{a:Act}{w:World}(n:Nat)(l:List Nat)(fs:List (Nat×Tmp×Obj))(ord:List (Nat×Bool))
 (x:P.follows .mixedOrders=true)(m:Jk .any ops n l fs ord=true)(q:Qv P ops n fs)
 (r:∀c a d u w,Q (.panic c) a w->Q (.panic c) (a.put (some d) u) w)(p:∀c a o u w,Q (.panic c) (a.put o u) w->Q (.panic c) a w)
 (h:Bx P ops Q n l fs (fun b=>w.heap.size<=b) ord a w.drew):(Code.region id ops true).wp P Q a w:=by
 simp only[Jk,am,aD]at m;obtain⟨⟨⟨⟨⟨g,y⟩,e⟩,B⟩,A⟩,z⟩:=m
 have k:∀f∈fs,f.1∈Region.ready .any ops (Array.replicate ops.size false)/\l.contains f.1=false:=fun f hf=>by
  have:=an.1 A f hf;simp only[am,di]at this;exact⟨by simpa using this.1,this.2⟩
 have:=MG (P:=P) (Q:=Q) (md:=.any) q (fun f hf=>(k f hf).2) g B y r p (ord.length+fs.length) ord _ (Array.replicate ops.size false) (fs.map fun _=>none) a w.drew w.drew (by rw[yZ])
  ⟨by simp,fun j b f h1 _=>by rw[aR]at h1;cases hx:fs[j]? <;>simp[hx]at h1,fun i j b h1 _=>by rw[aR]at h1;cases hx:fs[i]? <;>simp[hx]at h1⟩
  (fun b s=>s) (by rw[wS];exact⟨by simp,fun j C _ e=>(by rw[getD_replicate_false]at e;cases e),fun t h1 h2=>absurd h2 (by omega)⟩) (fun j f v=>(k f (aL v)).1) z h (TH _ _)
 rw[wS,BA,e,show n+(ops.size-n)=ops.size by omega]at this;exact wp_region_any x (vg _ _ _ _ this)
def gZ{n i:Nat}{c:List Nat}{fs:List (Nat×Tmp×Obj)}{C:Nat->Prop}{b:List (Nat×Bool)}{o:Oper}{v:Value}{a:Act}{w:World}(hi:ops.toList[i]? =some o)(d:c.contains i=false)
 (hw:Region.wanted o (yielded ops a.tmps)=true)(f:∀x,Below w w x->(execOp a.eval o).run P x=.ok (.value v) x)
 (h:Bx P ops Q n c fs C b (a.put o.dst v) w):Bx P ops Q n c fs C ((i,true)::b) a w:=
 ⟨o,v,by rw[<- bc];exact hi,Or.inl ⟨hw,fun x e=>f x (e.resolve_left (by rw[d];decide))⟩,h⟩
def iy{n i:Nat}{c:List Nat}{fs:List (Nat×Tmp×Obj)}{C:Nat->Prop}{b:List (Nat×Bool)}{o:Oper}{v:Value}{a:Act}{w:World}(hi:ops.toList[i]? =some o)
 (hw:Region.wanted o (yielded ops a.tmps)=true)(d:∀x,(execOp a.eval o).run P x=.ok (.value v) x)
 (h:Bx P ops Q n c fs C b (a.put o.dst v) w):Bx P ops Q n c fs C ((i,true)::b) a w:=
 ⟨o,v,by rw[<- bc];exact hi,Or.inl ⟨hw,fun x _=>d x⟩,h⟩
def nh{n i:Nat}{c:List Nat}{fs:List (Nat×Tmp×Obj)}{C:Nat->Prop}{b:List (Nat×Bool)}{o:Oper}{a:Act}{w:World}(hi:ops.toList[i]? =some o)
 (hw:Region.wanted o (yielded ops a.tmps)=false)
 (h:Bx P ops Q n c fs C b (a.put o.dst undef) w):Bx P ops Q n c fs C ((i,true)::b) a w:=
 ⟨o,undef,by rw[<- bc];exact hi,Or.inr ⟨hw,rfl⟩,h⟩
def iK{n i:Nat}{d:List Nat}{fs:List (Nat×Tmp×Obj)}{C:Nat->Prop}{c:List (Nat×Bool)}{o:Oper}{a:Act}{w:World}(hi:ops.toList[i]? =some o)(e:o.guard=none)
 (h:∀x,Below w w x-> ∀K:Act->World->Prop,(∀a' w',Below x.heap.size x w'->Bx P ops Q n d fs (fun b=>C b/\(b<x.heap.size\/w'.heap.size<=b)) c a' w'->K a' w')->o.wp P a x K Q):
 Bx P ops Q n d fs C ((i,false)::c) a w:=by
 have hw:Region.wanted o (yielded ops a.tmps)=true:=by simp[Region.wanted,e]
 rw[bc]at hi;intro x f;unfold wpOp;simp only[hi,hw,bX];exact .inl (h x f _ fun a' w' h1 h2=>⟨h1,h2⟩)
def kH{n i:Nat}{d:List Nat}{fs:List (Nat×Tmp×Obj)}{C:Nat->Prop}{c:List (Nat×Bool)}{o:Oper}{a:Act}{w:World}(hi:ops.toList[i]? =some o)(hw:Region.wanted o (yielded ops a.tmps)=true)
 (h:∀x,Below w w x-> ∀K:Act->World->Prop,(∀a' w',Below x.heap.size x w'->Bx P ops Q n d fs (fun b=>C b/\(b<x.heap.size\/w'.heap.size<=b)) c a' w'->K a' w')->o.wp P a x K Q):
 Bx P ops Q n d fs C ((i,false)::c) a w:=by
 rw[bc]at hi;intro x e;unfold wpOp;simp only[hi,hw,bX];exact .inl (h x e _ fun a' w' h1 h2=>⟨h1,h2⟩)
def jV{n:Nat}{e:List Nat}{C:Nat->Prop}{a:Act}{w:World}{l:List Oper}(d:ops.toList.drop n=l)(h:∀w',Below w w w'->wpList P ops Q l a w'):Bx P ops Q n e [] C [] a w:=by
 subst d;intro bs w' b _ _ c;obtain rfl:bs=[]:=aX.1 b;exact h w' c
def nV{n k1:Nat}{i:List Nat}{d:Tmp}{c:Obj}{C:Nat->Prop}{a:Act}{w:World}{l:List Oper}(g:ops.toList.drop n=l)
 (h:∀b1 w',C b1->Below w w w'->w'.heap[b1]? =some c->wpList P ops Q l (a.put (some d) (.pointer (J b1))) w'):
 Bx P ops Q n i [(k1,d,c)] C [] a w:=by
 subst g;intro bs w' b h1 h2 f
 match bs,b with
 |[b1],_=>
  obtain⟨c1,e⟩:=h1 0 b1 _ rfl rfl;exact h b1 w' c1 f e
end
def Jp(s:Bool)(zs:List Int)(q:Nat)(w:World)(v:Value)(wr:World):Prop:=
 ∃(k:Nat)(a:Option Addr)(b:Nat),v=.int .i64 k/\k<=q/\wr.ownsRow (w+2) 3 1 (.slice a k b) k ((zs.take k).map (Value.int .i64))/\
  wr.heap[w.heap.size]? =some (.cells #[false,oN] 221 (0,0))/\
  wr.heap[w.heap.size+1]? =some (.cells #[s,Z a k b] 221 (0,0))/\Below w w wr/\w.heap.size+2<=wr.heap.size
def Sp(w:World)(z:Int)(e:Ending)(w':World):Prop:=
 ∃s a n c,e=.returned (.agg #[.bool s,Z a n c])/\LG w' w' s a n c z/\Below w w w'/\kS w a n/\(n=0\/ ∃g,a=some ⟨g,0,none⟩/\vO w' g (ip z.natAbs))/\(a=none->c=0)
def EA{s}{zs:List Int}{q i d}{w wr:World}{z}(p:s=decide (z<0))(m:ip z.natAbs=zs.take q)(o:q<=600)(c:wr.ownsRow (w+2) 3 1 (.slice d q i) q ((zs.take q).map (Value.int .i64)))(n:Below w w wr):
 Sp w z (.returned (.agg #[s,Z d q i])) ((wr.setCell (J (w.heap.size)) (.bool s)).setCell ⟨w.heap.size,1,none⟩ (.slice d q i)):=by
 have l:=ur c
 have hf:kS (w+2) d q:=by
  rcases(mz c).2 with⟨e,h0⟩|⟨g,cap,e,k,f,a⟩
  .rw[h0];exact kS.zero _ _
  .injection e with e1 e2 e3
   rw[e1];exact kS.mk k _
 have j:∀b off,d=some ⟨b,off,none⟩->0<q->b≠w.heap.size:=fun b off e h0=>by have:=hf b off e h0;omega
 refine⟨s,d,q,i,rfl,⟨p,?_,o⟩,(n.setCell (aa _) _).setCell (aa _) _,hf.mono (by omega),?_,?_⟩;rotate_left
 .rcases(mz c).2 with⟨e,h0⟩|⟨g,cap,e,k,f,a⟩
  .exact Or.inl h0
  .injection e with e1 e2 e3
   refine Or.inr ⟨g,e1,?_⟩;rw[m];exact(a.other (J (w.heap.size)) (by simp;omega) _).other ⟨w.heap.size,1,none⟩ (by simp;omega) _
 .rcases(mz c).2 with⟨e,h0⟩|⟨g,cap,e,k,f,a⟩
  .injection e with e1 e2 e3
   exact fun _=>e3
  .injection e with e1 e2 e3
   intro h;rw[h]at e1;cases e1
 rw[m];have:=(l.setCell (J (w.heap.size)) (.bool s) j).setCell ⟨w.heap.size,1,none⟩ (.slice d q i) j;simpa using this
def pY{w w':World}{r}(h:w.drew.grownBy w' r):w.grownBy w' r:=⟨h.1,h.2,h.3,h.4,h.5⟩
def zz{zs:List Int}{j}(h:j<zs.length):zs.take j++[zs[j]?.getD 0]=zs.take (j+1):=by
 rw[eK,ae h];rfl
def vX(s:Bool)(zs z a n c)(w:World)(h:SL w w a n c zs)(hd:mv zs)(hn:n<=1000000)(hm:(ip (val zs).toNat).length<=600)(hz:z=if s then -val zs else val zs):
 Calls prog 177 #[s,Z a n c] w (Sp w z):=by
 have Hd:=O hd;have H:=O h;have b5:=h.cap;have Hz:=O hz;clear hd h hz;have L:=O H.len
 go_enter func177,ntmps177
 go_wp2_with fail
 go_loop [5] (fun v=>∃k:Nat,k<=n/\val (zs.take k)=val zs/\v=.int .i64 k) (fun v=>(intOf v).toNat)
 case atStart=>exact⟨n,aa _,by rw[H.len,bf],rfl⟩
 case round=>
  obtain⟨k,hk,ht,rfl⟩:=hrel;have Ht:=O ht;clear ht
  by_cases h0:k=0
  .subst h0
   have hv:val zs=0:=by rw[<- Ht];rfl
   have a0:z=0:=by rw[Hz,hv];cases s<;>rfl
   have R:=O a0;clear a0 hv;cases s
   all_goals
    go_wp2_with fail
    go_loopw [7] (fun v wr=>Jp false zs 0 w v wr) (fun v _=>(0:Nat)-(intOf v).toNat)
    case atStart=>
     obtain⟨F,u⟩:=iN w (.cells #[false,oN] 221) (.cells #[false,oN] 221);exact⟨0,none,0,rfl,aa _,World.ownsRow_nil _ _ _ _,F,u,((TH _ _).alloc (aa _) _).alloc (by simp) _,by simp⟩
    case round=>
     obtain⟨k,A,B,rfl,b8,g,e,m,q,o⟩:=hrel
     obtain rfl:k=0:=by omega
     have C:wr.cell? (J (w.heap.size))=some (.bool false):=by simp[World.cell?,e]
     have D:wr.cell? ⟨w.heap.size,1,none⟩=some (.slice none 0 0):=by simp[World.cell?,e]
     have b3:wr.frozen? (J (w.heap.size))=false:=by simp[World.frozen?,e]
     have b4:wr.frozen? ⟨w.heap.size,1,none⟩=false:=by simp[World.frozen?,e]
     have a1:wr.cell? (J (w+1))=some (.bool false):=by simp[World.cell?,m]
     have a2:wr.cell? ⟨w.heap.size+1,1,none⟩=some (.slice A 0 B):=by simp[World.cell?,m]
     have f:=O g;clear g e m
     go_wp2_with fail
     refine ar (v:=.agg #[false,Z A 0 B]) ?_ rfl ?_
     .simp[results,results177,go_sem,C,D]
     .exact EA (by rw[R];rfl) (by rw[R];simp[jP]) (by omega) f q
  .obtain⟨k,rfl⟩:∃i,k=i+1:=⟨k-1,by omega⟩
   obtain⟨hl,_,ga⟩:=H;obtain⟨b,off,rfl,S,ca⟩:=ga (by omega);have T:=((TH w w).alloc (aa _) (.cells #[false,oN] 221)).cell (p:=⟨b,off+k,none⟩) S;have g1:=T.trans (ca k (by omega));have a6:=O ca;clear ca ga h0 hl T
   by_cases t:zs.getD k 0=0
   .have M:=O t
    rw[t]at g1;clear t;cases s
    all_goals
     go_wp2
     go_round
     case rel=>exact⟨k,by omega,by rw[<- AY (by have:=L.out;omega) M,Ht],by go_num⟩
     case measure=>simp[intOf]
   .have M:=O t
    have b2:(zs.getD k 0==0)=false:=by simpa using t
    clear t;generalize N:zs.getD k 0=x at g1 b2;have Hx:=O N;clear N;have y:zs.take (k+1)=ip (val zs).toNat:=CT (n:=(val zs).toNat) Hd (by have:=L.out;omega) (Or.inr (by simpa using M.out)) (by rw[Ht,cH (jU Hd)])
    have b1:0<val zs:=by
     have h1:=jU Hd
     obtain h2|h2:=Int.lt_or_eq_of_le h1
     .exact h2
     .rw[<- h2]at y
      have:=ai List.length y;rw[bn,show(0:Int).toNat=0 from rfl,jP,cD (by have:=L.out;omega)]at this;exact absurd this (by simp)
    have X:ip z.natAbs=zs.take (k+1):=by
     rw[y,Hz];congr 1;cases s<;>simp<;>omega
    have o:s=decide (z<0):=by
     rw[Hz];cases s<;>simp<;>omega
    have a3:k+1<=600:=by
     have:=ai List.length y;rw[bn,cD (by have:=L.out;omega)]at this;omega
    have b0:=O X;have a9:=O o;clear X o b1 y;cases s
    all_goals
     go_wp2_with fail
     go_loopw [7] (fun v wr=>Jp _ zs (k+1) w v wr) (fun v _=>(k+1:Nat)-(intOf v).toNat)
     case atStart=>
      obtain⟨F,u⟩:=iN w (.cells #[false,oN] 221) (.cells #[_,oN] 221);exact⟨0,none,0,rfl,aA _,World.ownsRow_nil _ _ _ _,F,u,((TH _ _).alloc (aa _) _).alloc (by simp) _,by simp⟩
     case round=>
      obtain⟨j,A,B,rfl,hj,g,e,m,q,o⟩:=hrel
      have a2:wr.cell? ⟨w.heap.size+1,1,none⟩=some (.slice A j B):=by simp[World.cell?,m]
      have f:=O g
      by_cases W:j=k+1
      .subst W
       have C:wr.cell? (J (w.heap.size))=some (.bool false):=by simp[World.cell?,e]
       have D:wr.cell? ⟨w.heap.size,1,none⟩=some (.slice none 0 0):=by simp[World.cell?,e]
       have b3:wr.frozen? (J (w.heap.size))=false:=by simp[World.frozen?,e]
       have b4:wr.frozen? ⟨w.heap.size,1,none⟩=false:=by simp[World.frozen?,e]
       first
        |have a1:wr.cell? (J (w+1))=some (.bool false):=by simp[World.cell?,m];done
        |have a1:wr.cell? (J (w+1))=some (.bool true):=by simp[World.cell?,m];done
       clear g e m
       go_wp2_with fail
       first
        |(refine ar (v:=.agg #[false,Z A (k+1) B]) ?_ rfl ?_; ·(simp[results,results177,go_sem,C,D];done))
        |(refine ar (v:=.agg #[true,Z A (k+1) B]) ?_ rfl ?_; ·(simp[results,results177,go_sem,C,D];done))
       exact EA a9 b0 (by omega) f q
      .have g2:=(q.cell (p:=⟨b,off+j,none⟩) S).trans (a6 j (by omega))
       have g3:j<k+1:=by omega
       have g4:j<n:=by omega
       have a4:=O e;have a5:=O m;clear g e m W
       go_wp2_with fail
       refine gS 7 [(0,true),(1,true),(2,true),(3,true),(4,true),(5,true),(6,false)] (by kernel_rfl) (by kernel_rfl) ?_
       iterate 6
        refine gU (v:=?_) rfl (fun _ _ _ h=>h) (by rfl) ?_ ?_;rotate_left
        .intro x N
         have q1:=(N.cell (p:=⟨w.heap.size+1,1,none⟩) (by show w.heap.size+1<wr.heap.size;omega)).trans a2;have q2:=(N.cell (p:=⟨b,off+j,none⟩) (by show b<wr.heap.size;have:=q.size;omega)).trans g2;go_simp
         with_reducible rfl
        try simp only[V]
       refine gP rfl rfl (fun K hK=>?_);go_simp;refine hK _ _ ((TH _ _).alloc (aa _) _) ?_;clear hK K
       try simp only[V]
       refine iu rfl ?_;refine ju rfl (.tmp 34) (.tmp 39) 162 rfl underlying162 (w+2) _ _ (zs.take j) rfl (f.alloc _) _ _ 1 1 [_] rfl (SL.one wr.drew _ _) (by simp) (by omega) (by simp;omega) ?_;intro v' w1 l r;rw[zz (by have:=L.out;omega)]at l;obtain⟨P,Q,rfl⟩:=kx l;have d:(wr.alloc (.cells #[.int .i64 (zs[j]?.getD 0)] 3)).grownBy w1 (Value.slice A j B).ownBlock:=pY r;have F:=(jI (base:=w.heap.size+2) f d (b:=w.heap.size) (by omega) o).trans a4;have u:=(jI (base:=w.heap.size+2) f d (b:=w.heap.size+1) (by omega) o).trans a5;have e3:=jF q f d (by omega) o;have e4:=d.size
       have b6:w1.cell? ⟨w.heap.size+1,1,none⟩=some (.slice A j B):=by simp[World.cell?,u]
       have b7:w1.frozen? ⟨w.heap.size+1,1,none⟩=false:=by simp[World.frozen?,u]
       have a7:=O F;have a8:=O u;have E:=O l;clear F u l r d;go_wp2
       go_roundw
       case rel=>
        refine⟨j+1,P,Q,by go_num,by omega,?_,gF a7 _ (by simp) _,?_,e3.setCell (by simp) _,?_⟩
        .have:=ownsRow_setCell_below E (a:=⟨w.heap.size+1,1,none⟩) (by simp) (.slice P (j+1) Q)
         simpa using this
        .have:=gG a8 1 (.slice P (j+1) Q)
         simpa using this
        .simp at e4⊢;omega
       case measure=>simp[intOf];omega
def nl(s:Bool)(zs z a n c)(w:World)(h:SL w w a n c zs)(b:mv zs)(f:n<=1000000)(d:(ip (val zs).toNat).length<=600)(g:z=if s then -val zs else val zs):
 Calls prog 177 #[s,Z a n c] w (tb w z):=
 (vX s zs z a n c w h b f d g).mono fun _ _ ⟨s,a,n,c,e,h1,h2,h3,_⟩=>⟨s,a,n,c,e,h1,h2,h3⟩
def Pr(w:World)(x y t):(w.alloc (.cells #[x,y] t)).cell? (J (w.heap.size))=some x/\(w.alloc (.cells #[x,y] t)).cell? ⟨w.heap.size,1,none⟩=some y:=by
 have h:=TL w (.cells #[x,y] t);exact⟨(gA h 0).trans rfl,(gA h 1).trans rfl⟩
def pF{w f:World}{s a n c B z}(h:LG f f s a n c z)(j:Below w w f)(hf:kS B a n)(d)(i:d<B)(hw:w.heap.size<=d)(u v):
 tb w z (.returned (.agg #[s,Z a n c])) ((f.setCell (J d) u).setCell ⟨d,1,none⟩ v):=by
 have g:∀b off,a=some ⟨b,off,none⟩->0<n->b≠d:=fun b off e h0=>by have:=hf b off e h0;omega
 refine⟨s,a,n,c,rfl,?_,(j.setCell hw _).setCell hw _,hf.mono (by omega)⟩;have:=(h.setCell (J d) u g).setCell ⟨d,1,none⟩ v g;simpa using this
def gQ{w:World}{b x y t}(h:w.heap[b]? =some (.cells #[x,y] t (0,0))):
 w.cell? (J b)=some x/\w.cell? ⟨b,1,none⟩=some y/\w.frozen? (J b)=false/\w.frozen? ⟨b,1,none⟩=false:=by
 refine⟨?_,?_,?_,?_⟩ <;>simp[World.cell?,World.frozen?,h]
def QP(n:Nat)(w:World)(q d:Value)(wr:World):Prop:=
 ∃(k:Nat)(a:Option Addr)(b:Nat)(zs:List Int),q=.int .i64 (k:Int)/\d=.slice a zs.length b/\(k:Int)<=9223372036854775807/\ip n=zs++ip k/\
  wr.ownsRow (w+1) 3 1 (.slice a zs.length b) zs.length (zs.map (Value.int .i64))/\
  wr.heap[w.heap.size]? =some (.cells #[false,oN] 221 (0,0))/\Below w w wr/\w.heap.size+1<=wr.heap.size
def Ku(n:Nat)(w)(hn:(n:Int)<=9223372036854775807):
 Calls prog 130 #[.int .i64 (n:Int)] w (tb w n):=by
 have j:=nu n (by omega) (by omega);rw[aB]at j;have i:=O j;clear j
 have a6:¬(n:Int) <0:=by omega
 go_enter func130,ntmps130
 go_wp2_with fail
 go_loopw [0,3] (fun q d wr=>QP n w q d wr) (fun q _ _=>(intOf q).toNat)
 case atStart=>exact⟨n,none,0,[],rfl,rfl,hn,by simp,World.ownsRow_nil _ _ _ _,TL _ _,(TH _ _).alloc (aa _) _,by simp⟩
 case round=>
  obtain⟨k,va,vc,zs,rfl,rfl,b0,R,r,z,u,E⟩:=hrel;have F:=O R;have h:=O r;have y:=O z;clear R r z
  by_cases x:k=0
  .subst x
   obtain⟨a0,a1,a2,a3⟩:=gQ y
   have o:ip n=zs:=by have:=F.out;simpa[jP]using this
   have D:=ur h;have M:=O D;clear D
   go_wp2_with fail
   refine(nl false zs n _ _ _ _ M (by rw[<- o];exact iU n) (by rw[<- o];have:=i.out;omega) (by rw[<- o,iY,aI];have:=i.out;omega) (by rw[<- o];simp[iY])).mono ?_;rintro e w1 ⟨s,a,m,c,rfl,C,l,hf⟩;have N:=(l.cell (p:=J (w.heap.size)) (by show w.heap.size<wr.heap.size;omega)).trans a0;have P:=(l.cell (p:=⟨w.heap.size,1,none⟩) (by show w.heap.size<wr.heap.size;omega)).trans a1;have a8:=(l.frozen (p:=J (w.heap.size)) (by show w.heap.size<wr.heap.size;omega)).trans a2;have a9:=(l.frozen (p:=⟨w.heap.size,1,none⟩) (by show w.heap.size<wr.heap.size;omega)).trans a3;have L:=O C;have Hf:=O hf;clear C hf o
   go_wp2_with fail
   refine ar (v:=.agg #[s,Z a m c]) ?_ rfl ?_
   .simp[results,results130,go_sem,N,P]
   .exact pF L (u.trans (l.mono u.size)) Hf w (by omega) (aa _) _ _
  .have hb:((k:Int) !=0)=true:=by simpa using x
   have B:0<k:=by omega
   have A:=F.out
   have b1:zs.length<=3:=by have:=i.out;rw[A,al]at this;omega
   have X:ip k=[(k:Int)%1000000000]++ip ((k:Int)/1000000000).toNat:=by
    rw[nU B,show((k%1000000000:Nat):Int)=(k:Int)%1000000000 by omega,show k/1000000000=((k:Int)/1000000000).toNat by omega];rfl
   have Hx:=O X;clear X
   have a7:0<(k:Int):=by omega
   have S:((k:Int)/1000000000).toNat<k:=by omega
   have T:0<=(k:Int)/1000000000:=by omega
   have W:(k:Int)/1000000000<=9223372036854775807:=by omega
   have Hm:=O S;clear S;clear A x B;generalize hK:(k:Int)=K at*;have HK:=O hK;clear hK
   go_wp2_with(refine ju rfl (.tmp 16) (.tmp 18) 162 rfl underlying162 (w+1) _ _ zs rfl (h.alloc _) _ _ 1 1 [_] rfl (SL.one wr _ _) (by simp) (by omega) (by simp;omega) ?_)
   intro v' w1 g f;obtain⟨a4,a5,rfl⟩:=kx g;have Q:=(jI (base:=w.heap.size+1) h f (b:=w.heap.size) (by omega) E).trans y;have e3:=jF u h f (by omega) E;have e4:=f.size;have H:=O Q;have t:=O g;clear Q g f;go_wp2
   go_roundw
   case rel=>
    refine⟨(K/1000000000).toNat,a4,a5,zs++[K%1000000000],by rw[cH T],by simp,by rw[cH T];exact W,by rw[F,Hx,aC],?_,H,e3,?_⟩
    .simpa using t.out
    .simp at e4⊢;omega
   case measure=>
    have:=Hm.out;simp[intOf];omega
def Kv(zs a)(n c i:Nat)(w:World)(h:SL w w a n c zs)(l:n<=1000000)(hi:i<=1000000):
 Calls prog 253 #[Z a n c,.int .i64 (i:Int)] w (fun e w'=>e=.returned (.int .i64 (zs.getD i 0))/\w=w'):=by
 have g:=h.len
 by_cases f:i<n
 .obtain⟨b,off,rfl,k,d⟩:=h.at (by omega)
  have j:=d i f;clear d h g
  go_enter func253,ntmps253
  go_wp2;go_ret;exact⟨rfl,rfl⟩
 .have e:zs.getD i 0=0:=by rw[ah,bz (by omega)];rfl
  rw[e];clear e h g
  go_enter func253,ntmps253
  go_wp2;go_ret;exact⟨rfl,rfl⟩
def ux(zs a n c i z)(w:World)(h:SL w w a n c zs)(b:n<=1000000)(hi:i<=1000000)(d:zs.getD i 0=z):
 Calls prog 253 #[Z a n c,.int .i64 (i:Int)] w (fun e w'=>e=.returned (.int .i64 z)/\w=w'):=by
 subst d;exact Kv zs a n c i w h b hi
def MU(a b n m c d w)(e:n≠m):
 Calls prog 237 #[Z a n c,Z b m d] w (QE w (.bool (decide ((n:Int)-m<0)))):=by
 have h1:((n:Int) !=m)=true:=by simp;omega
 clear e
 go_enter func237,ntmps237
 go_wp2;go_ret;refine⟨?_,0,rfl⟩
 show Ending.returned (.bool (decide (n<m)))=_
 have h2:decide (n<m)=decide ((n:Int)-m<0):=by rw[dj];omega
 rw[h2]
def Kw(xs ys a b n c d)(w:World)(u:SL w w a n c xs)(z:SL w w b n d ys)(W:n<=1000000000)(B:mv xs)(C:mv ys):
 Calls prog 237 #[Z a n c,Z b n d] w (QE w (.bool (decide (qS xs ys n<0)))):=by
 have D:=O u;have E:=O z;clear u z;have F:=O B;have H:=O C;clear B C;generalize hR:decide (qS xs ys n<0)=R;have m:=O hR;clear hR
 go_enter func237,ntmps237
 go_wp2
 go_loopw [5] (fun v wr=>∃k j:Nat,k<=n/\v=.int .i64 ((k:Int)-1)/\qS xs ys n=qS xs ys k/\wr=w.drewN j) (fun v _=>(intOf v+1).toNat)
 case atStart=>exact⟨n,0,aa _,by go_num,rfl,rfl⟩
 case round=>
  obtain⟨k,j,T,rfl,A,rfl⟩:=hrel;have l:=O A;clear A
  by_cases h0:k=0
  .subst h0
   have t:R=false:=by rw[<- m,l];rfl
   subst t;go_wp2;go_ret;exact⟨rfl,_,rfl⟩
  .obtain⟨k,rfl⟩:∃i,k=i+1:=⟨k-1,by omega⟩
   obtain⟨_,_,r⟩:=D;obtain⟨M,X,rfl,_,p⟩:=r (by omega);obtain⟨_,_,s⟩:=E;obtain⟨N,ob,rfl,_,q⟩:=s (by omega);have P:=p k (by omega);have Q:=q k (by omega)
   have g2:(((k+1:Nat):Int)-1)=(k:Int):=by omega
   rw[g2]
   have S:(k:Int) <n:=by omega
   have K:=F.all k;have L:=H.all k;clear g2 p q r s h0;generalize hxx:xs.getD k 0=x at*;generalize hyy:ys.getD k 0=y at*;have g:=O hxx;have h:=O hyy;clear hxx hyy;go_wp2
   go_quiet (fail)
   go_wp2
   .go_quiet (fail)
    go_wp2;go_ret
    have e:(x !=y)=true:=by assumption
    refine⟨?_,by simp only[World.drewN_drewN];exact⟨_,rfl⟩⟩
    show Ending.returned (.bool (decide (x<y)))=_
    rw[<- m,l];simp only[qS,g.out,h.out];rw[aj (by simpa using e)]
    congr 2
    rw[dj];omega
   .have e:(x !=y)=false:=by assumption
    have f:x=y:=by simpa using e
    have o:=O f;clear f e
    go_roundw
    case rel=>
     refine⟨k,_,by omega,rfl,?_,rfl⟩;rw[l];simp only[qS,g.out,h.out];rw[aq o.out]
    case measure=>simp[intOf]
def tP(x y a b n m c d)(w:World)(f:SL w w a n c (ip x))(g:SL w w b m d (ip y))(i:n<=1000000000):
 Calls prog 237 #[Z a n c,Z b m d] w (QE w (.bool (decide (x<y)))):=by
 have e:decide (x<y)=decide (JY (ip x) (ip y) <0):=by rw[dj];exact JZ.2.symm
 rw[e]
 by_cases h:n=m
 .subst h
  have:=Kw _ _ a b n c d w f g i (iU x) (iU y);unfold JY;rw[aq (by rw[<- f.len,<- g.len]),<- f.len];exact this
 .have:=MU a b n m c d w h
  unfold JY;rw[aj (by rw[<- f.len,<- g.len];exact h),<- f.len,<- g.len];exact this
def rN(s z a n c)(w:World)(h:LG w w s a n c z):
 Calls prog 196 #[.agg #[s,Z a n c]] w (iZ w (.bool true)):=by
 have f:=h.2.1;have A:=h.1;have X:=h.2.2;have t:=iU z.natAbs;have C:=My z.natAbs;have u:=f.len;generalize hzs:ip z.natAbs=zs at*;have K:=O A;have F:=O t;have H:=O f;have q:=O u;have L:=O C;have r:=O hzs;clear A t f h u C hzs;have kk:=Pr w (.bool s) (.slice a n c) 221
 by_cases h0:n=0
 .have B:s=false:=by
   rw[K];have:=jC.1 (by rw[r,<- q];exact h0);simp;omega
  subst h0 B
  go_enter func196,ntmps196
  go_wp2;go_ret;exact⟨rfl,(TH _ _).alloc (aa _) _⟩
 .obtain⟨b,off,rfl,M,l⟩:=H.at (by omega)
  have i:0<n:=by omega
  have d:zs.getD (n-1) 0≠0:=by have:=L.out;have e:=q.out;rw[e]at i⊢;exact this i
  have m:∀j,(w.alloc (.cells #[s,Z (some ⟨b,off,none⟩) n c] 221)).cell? ⟨b,off+j,none⟩=w.cell? ⟨b,off+j,none⟩:=fun j=>((TH w w).alloc (aa _) _).cell (p:=⟨b,off+j,none⟩) M
  have g:=(m (n-1)).trans (l (n-1) (by omega))
  have g2:((n:Int)-1).toNat=n-1:=by omega
  have Q:(zs.getD (n-1) 0==0)=false:=by simpa using d
  have T:(zs.getD (n-1) 0 !=0)=true:=by simpa using d
  have R:((n:Int)==0)=false:=by simp;omega
  have S:n-1<n:=by omega
  have o:=O l;have D:=O m;clear l h0 d m;generalize hxx:zs.getD (n-1) 0=x at*;have N:=O hxx;clear hxx;have E:=O g;clear g
  go_enter func196,ntmps196
  go_wp2
  go_loop [3] (fun v=>∃k:Nat,k<=n/\v=.int .i64 k) (fun v=>n-(intOf v).toNat)
  case atStart=>exact⟨0,aA _,rfl⟩
  case round=>
   obtain⟨k,W,rfl⟩:=hrel
   by_cases P:k<n
   .have g:=(D k).trans (o k (by omega))
    have g2:=F.all k;generalize zs.getD k 0=y at*;go_wp2
    go_round
    case rel=>exact⟨k+1,by omega,by go_num⟩
    case measure=>simp[intOf];omega
   .have g:=E.out
    go_wp2;go_ret;exact⟨rfl,(TH _ _).alloc (aa _) _⟩
def mx(N M:Nat)(a:Option Addr)(n:Nat):Prop:=∀b off,a=some ⟨b,off,none⟩->0<n->b<N\/M<=b
def mx.ofFresh{N M a n}(h:kS M a n):mx N M a n:=fun b off e h0=>Or.inr (h b off e h0)
def mx.ofLG{N M w s a n c z}(h:LG N w s a n c z):mx N M a n:=fun b off e h0=>by
 obtain⟨b',f,d,g,_⟩:=h.2.1.at h0;rw[e]at d;cases d;exact Or.inl g
def Sq(N:Nat)(w:World)(z:Int)(e:Ending)(w':World):Prop:=
 ∃s a n c,e=.returned (.agg #[.bool s,Z a n c])/\LG w' w' s a n c z/\Below w w w'/\mx N w a n
def mI{f:World}{s a n c N M d z}(i:LG f f s a n c z)(j:mx N M a n)(h1:N<=d)(h2:d<M)(u v):
 LG ((f.setCell (J d) u).setCell ⟨d,1,none⟩ v).heap.size ((f.setCell (J d) u).setCell ⟨d,1,none⟩ v) s a n c z:=by
 have g:∀b off,a=some ⟨b,off,none⟩->0<n->b≠d:=fun b off e h0=>by obtain h|h:=j b off e h0<;>omega
 have:=(i.setCell (J d) u g).setCell ⟨d,1,none⟩ v g;simpa using this
def BX{w:World}{x1 y1 x2 y2 t a}(b:Below ((w.alloc (.cells #[x1,y1] t)).alloc (.cells #[x2,y2] t)).heap.size ((w.alloc (.cells #[x1,y1] t)).alloc (.cells #[x2,y2] t)) a):
 a.cell? (J (w.heap.size))=some x1/\a.cell? ⟨w.heap.size,1,none⟩=some y1/\a.cell? (J (w+1))=some x2/\a.cell? ⟨w.heap.size+1,1,none⟩=some y2/\w.heap.size+2<=a.heap.size/\Below w w a:=by
 obtain⟨c,d⟩:=iN w (.cells #[x1,y1] t) (.cells #[x2,y2] t);obtain⟨a1,a2,_,_⟩:=gQ c;obtain⟨b1,b2,_,_⟩:=gQ d;have e:=b.size;simp at e;refine⟨(b.cell (p:=J (w.heap.size)) (by simp;omega)).trans a1,(b.cell (p:=⟨w.heap.size,1,none⟩) (by simp;omega)).trans a2,(b.cell (p:=J (w+1)) (by simp)).trans b1,(b.cell (p:=⟨w.heap.size+1,1,none⟩) (by simp)).trans b2,by omega,mA (mA b)⟩
def Kx(s t:Bool)(a b n m c d w)(e:s≠t\/n≠m):
 Calls prog 230 #[.agg #[s,Z a n c],.agg #[t,Z b m d]] w (iZ w (.bool false)):=by
 have i:=iH (w:=w) (.cells #[s,Z a n c] 221) (.cells #[t,Z b m d] 221);have g:=O i;clear i
 by_cases f:s=t
 .subst f
  have j:n≠m:=e.resolve_left (fun h=>h rfl)
  have h1:((n:Int) !=m)=true:=by simp;omega
  clear e j;cases s
  all_goals
   go_enter func230,ntmps230
   go_wp2;go_ret;exact⟨rfl,g⟩
 .clear e
  cases s
  all_goals cases t
  all_goals first
   |exact absurd rfl f
   |(clear f
     go_enter func230,ntmps230
     go_wp2;go_ret
     exact⟨rfl,g⟩)
def MV(s:Bool)(xs ys a b n c d)(w:World)(H:SL w w a n c xs)(K:SL w w b n d ys)(hn:n<=1000)(P:mv xs)(Q:mv ys):
 Calls prog 230 #[.agg #[s,Z a n c],.agg #[s,Z b n d]] w (iZ w (.bool (decide (xs=ys)))):=by
 generalize hR:decide (xs=ys)=R;have r:=O hR;clear hR;have q:=O H;have u:=O K;clear H K;have T:=O P;have W:=O Q;clear P Q
 go_enter func230,ntmps230
 go_wp2;have hq:=BX (TH _ _) (w:=w) (x1:=.bool s) (y1:=.slice a n c) (x2:=.bool s) (y2:=.slice b n d) (t:=221);obtain⟨q1,q2,q3,q4,q5,S⟩:=hq;have f:=O S;generalize hW:(w.alloc (.cells #[s,Z a n c] 221)).alloc (.cells #[s,Z b n d] 221)=W0 at*;clear hW S
 go_loopw [5] (fun v wr=>∃k j:Nat,k<=n/\v=.int .i64 (k:Int)/\(∀i,i<k->xs.getD i 0=ys.getD i 0)/\wr=W0.drewN j) (fun v _=>n-(intOf v).toNat)
 case atStart=>exact⟨0,0,aA _,rfl,fun i hi=>absurd hi (by omega),rfl⟩
 case round=>
  obtain⟨k,j,hk,rfl,N,rfl⟩:=hrel;have A:=O N;clear N
  by_cases h0:k=n
  .subst h0
   have F:R=true:=by
    rw[<- r,aD]
    refine List.ext_getElem (by rw[<- q.len,<- u.len]) fun i h1 h2=>?_
    have:=A i (by rw[q.len];exact h1);simpa[ah,ae h1,ae h2]using this
   subst F;go_wp2;go_ret;exact⟨rfl,gV f _⟩
  .have o:k<n:=by omega
   obtain⟨_,_,D⟩:=q;obtain⟨X,oa,rfl,L,B⟩:=D (by omega);obtain⟨_,_,E⟩:=u;obtain⟨bb,ob,rfl,M,C⟩:=E (by omega);have g1:=(f.cell (p:=⟨X,oa+k,none⟩) L).trans (B k o);have g3:=(f.cell (p:=⟨bb,ob+k,none⟩) M).trans (C k o);have a0:=T.all k;have a1:=W.all k;clear B C D E h0;generalize hxx:xs.getD k 0=x at*;generalize hyy:ys.getD k 0=y at*;have l:=O hxx;have m:=O hyy;clear hxx hyy;go_wp2
   go_quiet (fail)
   go_wp2
   .go_ret
    have g:(x !=y)=true:=by assumption
    refine⟨?_,by simp only[World.drewN_drewN];exact gV f _⟩
    show Ending.returned (.bool false)=_
    rw[<- r,aw];intro e;have:=l.out;rw[e,m]at this;simp[this]at g
   .have g:(x !=y)=false:=by assumption
    have h:x=y:=by simpa using g
    have z:=O h;clear h g
    go_roundw
    case rel=>
     refine⟨k+1,_,by omega,by go_num,fun i hi=>?_,rfl⟩
     by_cases e:i=k
     .subst e;rw[l,m,z]
     .exact A i (by omega)
    case measure=>simp[intOf];omega
def MW{m n}:ip m=ip n↔m=n:=by
 constructor
 .intro h
  have:=ai val h;rw[iY,iY]at this;omega
 .rintro rfl;rfl
def EB(s t x y a b n m c d)(w:World)(f:LG w w s a n c x)(g:LG w w t b m d y):
 Calls prog 230 #[.agg #[s,Z a n c],.agg #[t,Z b m d]] w (iZ w (.bool (decide (x=y)))):=by
 by_cases h:s≠t\/n≠m
 .have e:decide (x=y)=false:=by
   rw[aw];rintro rfl
   obtain h|h:=h
   .exact h (by rw[f.1,g.1])
   .exact h (by rw[f.2.1.len,g.2.1.len])
  rw[e];exact Kx s t a b n m c d w h
 .have h1:s=t:=bg fun i=>h (Or.inl i)
  have h2:n=m:=bg fun i=>h (Or.inr i)
  subst h1 h2
  have e:decide (x=y)=decide (ip x.natAbs=ip y.natAbs):=by
   rw[dj,MW];have j:=f.1;have k:=g.1;rw[j,dj]at k;omega
  rw[e];exact MV s _ _ a b n c d w f.2.1 g.2.1 (by have:=f.2.2;omega) (iU _) (iU _)
def uy(s t x y a b n m c d)(w:World)(ha:LG w w s a n c x)(i:LG w w t b m d y):
 Calls prog 198 #[.agg #[s,Z a n c],.agg #[t,Z b m d]] w (iZ w (.int .i64 (oG x y))):=by
 generalize hR:oG x y=R;have B:=O hR;clear hR;have M:=iH (w:=w) (.cells #[s,Z a n c] 221) (.cells #[t,Z b m d] 221);have C:=O ha;have Q:=O i;have F:=O M;clear ha i M;have hs:=C.1;have ht:=Q.1;have S:=O hs;have X:=O ht;clear hs ht
 go_enter func198,ntmps198
 go_wp2_with fail
 refine(EB s t x y a b n m c d _ (C.go F) (Q.go F)).mono ?_;rintro e w2 ⟨rfl,H⟩;obtain⟨q1,q2,q3,q4,q5,k⟩:=BX H;clear H
 have o:w.heap.size<w2.heap.size:=by omega
 have q:w.heap.size+1<w2.heap.size:=by omega
 by_cases g:x=y
 .have a0:R=0:=by rw[<- B];unfold oG;subst g;simp
  have z:decide (x=y)=true:=by simpa using g
  subst a0;clear g;rw[z];clear z;go_wp2;go_ret;exact⟨rfl,k⟩
 .have z:decide (x=y)=false:=by simpa using g
  rw[z];clear z
  by_cases r:s=t
  .subst r
   have l:R=if(decide (x.natAbs<y.natAbs) !=s)=true then -1 else 1:=by
    rw[<- B,S];have h1:=S.out;rw[X,dj]at h1;unfold oG
    by_cases D:x<0
    .have h2:y<0:=h1.2 D
     simp[D]
     by_cases h3:x<y
     .rw[aq h3,aq (by omega)]
     .rw[aj h3,aq (by omega),aj (by omega)]
    .have h2:¬y<0:=fun h=>D (h1.1 h)
     simp[D]
     by_cases h3:x<y
     .rw[aq h3,aq (by omega)]
     .rw[aj h3,aq (by omega),aj (by omega)]
   have E:=O l;clear l g;have N:=(C.go k).2.1;have P:=(Q.go k).2.1;have T:=O N;have W:=O P;clear N P
   go_wp2_with fail
   refine gS 8 [(0,true),(1,true),(2,true),(3,true),(5,true),(6,true),(4,false),(7,true)] (by kernel_rfl) (by kernel_rfl) ?_
   iterate 6
    refine gU (v:=?_) rfl (fun _ _ _ h=>h) (by rfl) ?_ ?_;rotate_left
    .intro x f
     have z1:=(f.cell (p:=J (w.heap.size)) o).trans q1;have z2:=(f.cell (p:=⟨w.heap.size,1,none⟩) o).trans q2;have z3:=(f.cell (p:=J (w+1)) q).trans q3;have z4:=(f.cell (p:=⟨w.heap.size+1,1,none⟩) q).trans q4;go_simp
     with_reducible rfl
    try simp only[V]
   refine gP rfl rfl (fun K hK=>?_);go_simp;refine(tP x.natAbs y.natAbs a b n m c d _ (by exact T) (by exact W) (by have:=C.2.2;omega)).mono ?_;rintro e w4 ⟨rfl,nk,rfl⟩;refine hK _ _ (gV (TH _ _) _) ?_;clear hK K
   try simp only[V]
   generalize hL:decide (x.natAbs<y.natAbs)=L at*;have Hl:=O hL;clear hL
   by_cases i:(L !=s)=true
   .have j:R= -1:=by rw[E,aq i]
    have u:=O j;clear j
    have a1:(L==s)=false:=by simpa[bne]using i
    refine gU (v:=?_) rfl (fun _ _ _ h=>h) (by rfl) ?_ ?_;rotate_left
    .intro x f
     go_simp
     with_reducible rfl
    try simp only[V]
    refine iu rfl ?_;go_wp2;go_ret;exact⟨by rw[u];rfl,gV k _⟩
   .have j:R=1:=by rw[E,aj i]
    have u:=O j;clear j
    have i:(L !=s)=false:=by simpa using i
    have a1:(L==s)=true:=by simpa[bne]using i
    refine gU (v:=?_) rfl (fun _ _ _ h=>h) (by rfl) ?_ ?_;rotate_left
    .intro x f
     go_simp
     with_reducible rfl
    try simp only[V]
    refine iu rfl ?_;go_wp2;go_ret;exact⟨by rw[u];rfl,gV k _⟩
  .have l:(s=true/\t=false/\R= -1)\/(s=false/\t=true/\R=1):=by
    rw[<- B];have h1:=S.out;have h2:=X.out;unfold oG
    by_cases f:x<0
    .by_cases A:y<0
     .rw[aP f]at h1;rw[aP A]at h2;exact absurd (h1.trans h2.symm) r
     .rw[aP f]at h1;rw[aw A]at h2
      exact Or.inl ⟨h1,h2,aq (by omega)⟩
    .by_cases A:y<0
     .rw[aw f]at h1;rw[aP A]at h2
      exact Or.inr ⟨h1,h2,by rw[aj (by omega),aq (by omega)]⟩
     .rw[aw f]at h1;rw[aw A]at h2;exact absurd (h1.trans h2.symm) r
   clear r g B
   obtain ⟨rfl,rfl,rfl⟩|⟨rfl,rfl,rfl⟩:=l
   .go_wp2
    go_ret;exact⟨rfl,k⟩
   .go_wp2
    go_ret;exact⟨rfl,k⟩
def jh(w:World)(o p q):(((w.alloc o).alloc p).alloc q).heap[w.heap.size]? =some o/\(((w.alloc o).alloc p).alloc q).heap[w.heap.size+1]? =some p/\(((w.alloc o).alloc p).alloc q).heap[w.heap.size+2]? =some q:=by
 obtain⟨a,b⟩:=iN w o p;refine⟨?_,?_,?_⟩
 .rw[TJ _ _ _ (by simp;omega)];exact a
 .rw[TJ _ _ _ (by simp)];exact b
 .have:=TL ((w.alloc o).alloc p) q
  simpa using this
def lW(w:World)(o p q):Below w w (((w.alloc o).alloc p).alloc q):=
 (((TH _ _).alloc (aa _) _).alloc (by simp) _).alloc (by simp;omega) _
def jn(l:List Int)(k):val (l.take (k+1))=val (l.take k)+l.getD k 0*1000000000^k:=by
 by_cases h:k<l.length
 .exact oY h
 .rw[aM (by omega),aM (by omega),ah,bz (by omega)];simp
def S1(xs ys zs:List Int)(i:Nat)(a:Int):Prop:=
 zs.length=i/\mv zs/\val zs+a*1000000000^i=val (xs.take i)+val (ys.take i)/\0<=a/\a<=1
def S1.step{xs ys zs i c}(h:S1 xs ys zs i c)(f:mv xs)(g:mv ys):
 S1 xs ys (zs++[(xs.getD i 0+ys.getD i 0+c)%1000000000]) (i+1) ((xs.getD i 0+ys.getD i 0+c)/1000000000):=by
 obtain⟨h1,h2,h3,j,h5⟩:=h;have a:=f.all i;have b:=g.all i;refine⟨by simp[h1],h2.append (mv.cons (by omega) mv.nil),?_,by omega,by omega⟩;rw[oD,h1,jn,jn];simp only[val];generalize xs.getD i 0=x at*;generalize ys.getD i 0=y at*
 have e:(x+y+c)%1000000000+(x+y+c)/1000000000*1000000000=x+y+c:=by omega
 have d:val zs+1000000000^i*((x+y+c)%1000000000+1000000000*0)+(x+y+c)/1000000000*1000000000^(i+1)=val zs+((x+y+c)%1000000000+(x+y+c)/1000000000*1000000000)*1000000000^i:=by
  rw[dF,cJ,Int.mul_zero,fB,bN (1000000000^i),fi,bO,bN (1000000000^i) 1000000000]
 rw[d,e,cJ,cJ];omega
def S1.last{xs ys zs i}(h:S1 xs ys zs i 0)(a:xs.length<=i)(b:ys.length<=i):val zs=val xs+val ys:=by
 have:=h.2.2.1;rw[aM a,aM b]at this;omega
def QQ(w:World)(g h j:Obj)(xs ys:List Int)(e d f:Value)(wr:World):Prop:=
 ∃(i:Nat)(a:Int)(b:Option Addr)(c:Nat)(zs:List Int),e=.slice b zs.length c/\d=.int .i64 a/\f=.int .i64 (i:Int)/\S1 xs ys zs i a/\
  (i<=max xs.length ys.length\/(i=max xs.length ys.length+1/\a=0))/\wr.ownsRow (w+3) 3 1 (.slice b zs.length c) zs.length (zs.map (Value.int .i64))/\
  wr.heap[w.heap.size]? =some g/\wr.heap[w.heap.size+1]? =some h/\wr.heap[w.heap.size+2]? =some j/\Below w w wr/\w.heap.size+3<=wr.heap.size
def Ps(N s x y a b n m c d w)(ha:LG N w s a n c x)(hb:LG N w s b m d y)(hN:N<=w.heap.size)(M:(ip (x+y).natAbs).length<=600):
 Calls prog 236 #[.agg #[s,Z a n c],.agg #[s,Z b m d]] w (Sq N w (x+y)):=by
 have B:=O ha;have C:=O hb;clear ha hb;have hn:=B.2.2;have hm:=C.2.2;have a2:=O M;clear M
 by_cases h0:n=0
 .subst h0
  have e8:x=0:=by have:=jC.1 B.2.1.len.symm;omega
  obtain⟨r,t,q⟩:=jh w (.cells #[s,Z a 0 c] 221) (.cells #[s,Z b m d] 221) (.cells #[s,Z b m d] 221);obtain⟨c0,c1,_,_⟩:=gQ q;have C0:=O c0;have C1:=O c1;clear c0 c1 r t q
  go_enter func236,ntmps236
  go_wp2;refine ar (v:=.agg #[s,Z b m d]) ?_ rfl ?_
  .simp[results,results236,go_sem,C0.out,C1.out]
  .have z:=lW w (.cells #[s,Z a 0 c] 221) (.cells #[s,Z b m d] 221) (.cells #[s,Z b m d] 221)
   exact⟨s,b,m,d,rfl,by rw[e8,Int.zero_add];exact(C.mono hN).go z,z,mx.ofLG C⟩
 .have g0:((n:Int)==0)=false:=by simp;omega
  by_cases e7:m=0
  .subst e7
   have e9:y=0:=by have:=jC.1 C.2.1.len.symm;omega
   obtain⟨r,t,q⟩:=jh w (.cells #[s,Z a n c] 221) (.cells #[s,Z b 0 d] 221) (.cells #[s,Z a n c] 221);obtain⟨c0,c1,_,_⟩:=gQ q;have C0:=O c0;have C1:=O c1;clear c0 c1 r t q
   go_enter func236,ntmps236
   go_wp2;refine ar (v:=.agg #[s,Z a n c]) ?_ rfl ?_
   .simp[results,results236,go_sem,C0.out,C1.out]
   .have z:=lW w (.cells #[s,Z a n c] 221) (.cells #[s,Z b 0 d] 221) (.cells #[s,Z a n c] 221)
    exact⟨s,a,n,c,rfl,by rw[e9,fB];exact(B.mono hN).go z,z,mx.ofLG B⟩
  .have g1:((m:Int)==0)=false:=by simp;omega
   have b3:=B.2.1.len;have b4:=C.2.1.len;have a8:=iU x.natAbs;have a9:=iU y.natAbs;have b8:=iY x.natAbs;have b9:=iY y.natAbs;have b6:=(B.2.1.mono hN);have b7:=(C.2.1.mono hN);have b5:s=decide (x<0)/\s=decide (y<0):=⟨B.1,C.1⟩;generalize ip x.natAbs=xs at*;generalize ip y.natAbs=ys at*;have D:=O b3;have F:=O b4;have a3:=O a8;have a4:=O a9;have d8:=O b8;have d9:=O b9;have d6:=O b6;have d7:=O b7;have d5:=O b5;clear b3 b4 a8 a9 b8 b9 b6 b7 b5
   go_enter func236,ntmps236
   go_wp2_with fail
   go_loopw [5,6,7] (fun dv cv iv wr=>QQ w (.cells #[s,Z a n c] 221 (0,0)) (.cells #[s,Z b m d] 221 (0,0)) (.cells #[false,oN] 221 (0,0)) xs ys dv cv iv wr) (fun _ _ iv _=>max n m+1-(intOf iv).toNat)
   case atStart=>
    obtain⟨r,t,q⟩:=jh w (.cells #[s,Z a n c] 221) (.cells #[s,Z b m d] 221) (.cells #[false,oN] 221);exact⟨0,0,none,0,[],rfl,rfl,rfl,⟨rfl,mv.nil,by simp[val],by omega,by omega⟩,Or.inl (aA _),World.ownsRow_nil _ _ _ _,r,t,q,lW _ _ _ _,by simp⟩
   case round=>
    obtain⟨i,l,va,vc,zs,rfl,rfl,rfl,W,hi,P,X,a0,a1,A,Q⟩:=hrel;obtain⟨q1,q2,f1,f2⟩:=gQ X;obtain⟨q3,q4,f3,f4⟩:=gQ a0;obtain⟨q5,q6,f5,f6⟩:=gQ a1;have a6:=d6.go A;have a7:=d7.go A;have c5:=O a6;have c6:=O a7;have HS:=O W;have j:=O P;have c7:=O X;have c8:=O a0;have c9:=O a1;have f8:=W.2.2.2.1;have f9:=W.2.2.2.2;have c2:zs.length=i:=W.1;have a5:=O c2;clear a6 a7 W P X a0 a1 f1 f2 f3 f4 c2;have E:=D.out;have H:=F.out
    have b1:i<=max n m\/(i=max n m+1/\l=0):=by rw[E,H];exact hi
    have Hi:=O hi;clear hi E H
    have g8:i<=601:=by omega
    by_cases L:¬i<n/\ ¬i<m/\l=0
    .obtain⟨g2,g3,rfl⟩:=L
     clear b1;have hv:val zs=val xs+val ys:=HS.last (by rw[<- D];omega) (by rw[<- F];omega)
     have hz:x+y=if s then -val zs else val zs:=by
      obtain⟨s1,s2⟩:=d5;rw[hv,d8,d9];cases s
      .have h1:¬x<0:=by simpa using s1
       have h2:¬y<0:=by simpa using s2
       simp;omega
      .have h1:x<0:=by simpa using s1
       have h2:y<0:=by simpa using s2
       simp;omega
     have b0:(ip (val zs).toNat).length<=600:=by
      have h1:=jU HS.2.1
      have:(val zs).toNat=(x+y).natAbs:=by rw[hz];cases s<;>simp<;>omega
      rw[this];exact a2
     have Hz:=O hz;have d0:=O b0;clear hz b0 hv
     go_wp2_with fail
     refine(nl s zs _ _ _ _ _ (ur j) HS.2.1 (by have:=a5.out;omega) d0 Hz).mono ?_;rintro e w1 ⟨s',a',n',c',rfl,b2,u,hf⟩;have k5:=(u.cell (p:=J (w+2)) (by show w.heap.size+2<wr.heap.size;omega)).trans q5;have k6:=(u.cell (p:=⟨w.heap.size+2,1,none⟩) (by show w.heap.size+2<wr.heap.size;omega)).trans q6;have k7:=(u.frozen (p:=J (w+2)) (by show w.heap.size+2<wr.heap.size;omega)).trans f5;have k8:=(u.frozen (p:=⟨w.heap.size+2,1,none⟩) (by show w.heap.size+2<wr.heap.size;omega)).trans f6;have d4:=O b2;have Hf:=O hf;clear b2 hf
     go_wp2_with fail
     refine ar (v:=.agg #[s',Z a' n' c']) ?_ rfl ?_
     .simp[results,results236,go_sem,k5,k6]
     .refine⟨s',a',n',c',rfl,mI d4 (mx.ofFresh (N:=0) Hf) (aA _) (by omega) _ _,((A.trans (u.mono A.size)).setCell (by show w.heap.size<=w.heap.size+2;omega) _).setCell (by show w.heap.size<=w.heap.size+2;omega) _,mx.ofFresh (Hf.mono (by omega))⟩
    .have S:i<n\/(¬i<n/\i<m)\/(¬i<n/\ ¬i<m/\0<l):=by omega
     have g6:i<=max n m:=by omega
     have c3:i+1<=max n m\/(i+1=max n m+1/\(xs.getD i 0+ys.getD i 0+l)/1000000000=0)\/i+1=max n m:=by
      by_cases h1:i<max n m
      .exact Or.inl (by omega)
      .refine Or.inr (Or.inl ⟨by omega,?_⟩)
       have h2:xs.getD i 0=0:=by rw[ah,bz (by rw[<- D];omega)];rfl
       have h3:ys.getD i 0=0:=by rw[ah,bz (by rw[<- F];omega)];rfl
       rw[h2,h3];omega
     clear L b1
     have g7:zs.length<=601:=by have:=a5.out;omega
     have g4:=a3.all i;have g5:=a4.all i;have c4:=O (HS.step a3 a4);generalize hxi:xs.getD i 0=xi at*;generalize hyi:ys.getD i 0=yi at*;have e0:=O hxi;have e6:=O hyi;clear hxi hyi
     have g9:0<=(xi+yi+l)%1000000000:=by omega
     have h4:(xi+yi+l)%1000000000<1000000000:=by omega
     have h5:0<=xi+yi+l:=by omega
     obtain g|⟨g,g'⟩|⟨g,g',g''⟩:=S
     all_goals
      go_wp2_with fail
      refine gS 11 [(0,true),(1,true),(2,true),(4,true),(5,true),(6,true),(9,true),(3,false),(7,false),(8,true),(10,true)] (by kernel_rfl) (by kernel_rfl) ?_
      iterate 7
       refine gU (v:=?_) rfl (fun _ _ _ h=>h) (by rfl) ?_ ?_;rotate_left
       .intro x hx
        have z2:=(hx.cell (p:=⟨w.heap.size,1,none⟩) (by show w.heap.size<wr.heap.size;omega)).trans q2;have z4:=(hx.cell (p:=⟨w.heap.size+1,1,none⟩) (by show w.heap.size+1<wr.heap.size;omega)).trans q4;go_simp
        with_reducible rfl
       try simp only[V]
      refine gP rfl rfl (fun K T=>?_);go_simp;refine(ux xs a n c i xi _ (by exact c5) (by omega) (by omega) e0).mono ?_;rintro e w4 ⟨rfl,rfl⟩;refine T _ _ (TH _ _) ?_;clear T K
      try simp only[V]
      refine gP rfl rfl (fun K T=>?_);go_simp;refine(ux ys b m d i yi _ (by exact c6) (by omega) (by omega) e6).mono ?_;rintro e w4 ⟨rfl,rfl⟩;refine T _ _ (TH _ _) ?_;clear T K
      try simp only[V]
      iterate 2
       refine gU (v:=?_) rfl (fun _ _ _ h=>h) (by rfl) ?_ ?_;rotate_left
       .intro x hx
        go_simp
        with_reducible rfl
       try simp only[V]
      refine iu rfl ?_
      go_wp2_with(refine ju rfl (.tmp 57) (.tmp 60) 162 rfl underlying162 (w+3) _ _ zs rfl (j.alloc _) _ _ 1 1 [_] rfl (SL.one wr.drew _ _) (by simp) (by omega) (by simp;omega) ?_)
      intro v' w1 k o;obtain⟨f0,f7,rfl⟩:=kx k;have f:(wr.alloc (.cells #[.int .i64 ((xi+yi+l)%1000000000)] 3)).grownBy w1 (Value.slice va zs.length vc).ownBlock:=pY o;have r:=(jI (base:=w.heap.size+3) j f (b:=w.heap.size) (by omega) Q).trans c7;have t:=(jI (base:=w.heap.size+3) j f (b:=w.heap.size+1) (by omega) Q).trans c8;have e5:=(jI (base:=w.heap.size+3) j f (b:=w.heap.size+2) (by omega) Q).trans c9;have q:=jF A j f (by omega) Q;have e4:=f.size;have d1:=O r;have d2:=O t;have d3:=O e5;have R:=O k;clear r t e5 k o f q1 q2 q3 q4 q5 q6;go_wp2
      go_roundw
      case rel=>
       refine⟨i+1,(xi+yi+l)/1000000000,f0,f7,zs++[(xi+yi+l)%1000000000],by simp,by go_num,by go_num,c4,?_,?_,d1,d2,d3,q,?_⟩
       .rw[<- D,<- F];omega
       .simpa using R.out
       .simp at e4⊢;omega
      case measure=>simp[intOf];omega
end Go.Proofs.YtgohdcccfkjooaaGreatDoor

import Derived.Test.YtlnbjinneegciabGreatDoorTAV
namespace Go.Proofs.YtlnbjinneegciabGreatDoor
set_option linter.all false
open Go.RowKit Go.Lib
def JU(ws:List mN):Nat:=(ws.map fun v=>v.length+1).sum
def lp:∀(ws:List mN),ws≠[]->(iF ws).length=JU ws
 |[],h=>(h rfl).elim
 |[x],_=>by simp[iF,nN,JU]
 |x::y::l,_=>by
  have h:=lp (y::l) (by simp);unfold iF at h⊢;rw[nN];unfold JU at h⊢;rw[aN,cO,<- h];simp;omega
def pL{α:Type}(f:α->List UInt8)(c:Nat):∀(l:List α),(∀a∈l,(f a).length<=c)->((l.map f).flatten).length<=c*l.length
 |[],_=>by simp
 |a::l,h=>by
  have h1:=h a aG;have h2:=pL f c l (fun b hb=>h b (au _ hb));rw[aN,ce,al,aH,Nat.mul_add];omega
def wO{n:Int}{d:Nat}(h1: -1000000000<=n)(h2:n<=1000000000)(a:d<=9):(iz n d).length<=12:=by
 refine af (ro (k:=10-d) (d:=d) ?_ (by omega)) (by omega);rw[show 10-d+d=10 by omega];omega
def QC(p:Nat):oo p<=9:=by unfold oo;split;omega;split<;>omega
def CO{p:Nat}:(km p).length<=6:=by
 unfold km;by_cases h:p-1<17
 .have:∀k,k<17->(kO.getD k []).length<=6:=by decide
  exact this _ h
 .rw[ah,bz (by show 17<=p-1;omega)]
  simp
def Mq{k:Nat}:(kP.getD k []).length<=8:=by
 by_cases h:k<4
 .have:∀k,k<4->(kP.getD k []).length<=8:=by decide
  exact this _ h
 .rw[ah,bz (by show 4<=k;omega)]
  simp
def I7{s:ByteArray}(h:kI s=true):(VX s).length<=16:=by
 unfold kI at h;simp only[am,aD]at h
 have e:s.size=(VX s).length:=by unfold VX;rw[fe];rfl
 omega
def OQ{s:gW}(r:∀p:Int,-1000000000<=s.get p/\s.get p<=1000000000)(p:Nat):(Ld s p).length<=20:=by
 unfold Ld;split
 .simp
 .rw[lp _ (by simp)]
  have h1:=wO (d:=oo p) (r p).1 (r p).2 (QC p);have h2:=CO (p:=p);simp[JU];omega
def xy{s:gW}(r:∀p:Int,-1000000000<=s.get p/\s.get p<=1000000000)(a n:Nat):(ub s a n).length<=20*n:=by
 have:=pL (fun i=>Ld s (a+i)) 20 (List.range n) (fun i _=>OQ r _);rw[dt]at this;exact this
def Mr{x:gM}(h:tr x=true):(oq x).length<=648:=by
 obtain⟨a,o,p⟩:=uG h
 have m:x.zs.length/3<=8:=by
  have h1:oA x.s x.zs (x.zs.length/3)=true:=h;unfold oA at h1;rw[am]at h1;have b:pC x.s x.zs (x.zs.length/3) 6=true:=an.1 h1.1 6 (by decide);exact bZ b
 have a1:=xy a 1 10;have a2:=xy a 11 5;have a3:=xy a 16 2
 have c:(iF [nq,kP.getD (x.s.kind-1).toNat []]).length<=17:=by
  rw[lp _ (by simp)];have:=Mq (k:=(x.s.kind-1).toNat);simp only[JU,aN,bI,cO,dh];rw[show nq.length=7 from rfl];omega
 have e:(if x.s.i7=0 then[]else iF [lB,iz x.s.i7 6]).length<=18:=by
  split
  .simp
  .rw[lp _ (by simp)]
   have:=wO (n:=x.s.i7) (d:=6) (by omega) (by omega) (by omega);simp only[JU,aN,bI,cO,dh];rw[show lB.length=4 from rfl];omega
 have f:(if x.s.order=0 then[]else iF [kj,iz x.s.order 0]).length<=10:=by
  split
  .simp
  .rw[lp _ (by simp)]
   have:=ro (z:=x.s.order) (d:=0) (k:=1) (by rw[show(10:Nat)^(1+0)=10 from rfl];omega) (by omega);simp only[JU,aN,bI,cO,dh];rw[show kj.length=5 from rfl];omega
 have g:(if VX x.s.gA=[]then[]else iF [lP,VX x.s.gA]).length<=23:=by
  split
  .simp
  .rename_i hg
   rw[lp _ (by simp)];have:=I7 (AJ h hg);simp only[JU,aN,bI,cO,dh];rw[show lP.length=5 from rfl];omega
 have j:(((List.range (x.zs.length/3)).map (V3 x.zs)).flatten).length<=30*8:=by
  refine af (pL (V3 x.zs) 30 _ fun i hi=>?_) (by rw[dt];omega);have l:=wH h (aJ.1 hi);unfold V3;rw[lp _ (by simp)];have b1:=ro (z:=x.zs.getD (i*3) 0) (d:=7) (k:=1) (by rw[show(10:Nat)^(1+7)=100000000 from rfl];omega) (by omega);have b2:=ro (z:=x.zs.getD (i*3+1) 0) (d:=0) (k:=4) (by rw[show(10:Nat)^(4+0)=10000 from rfl];omega) (by omega);have b3:=ro (z:=x.zs.getD (i*3+2) 0) (d:=0) (k:=4) (by rw[show(10:Nat)^(4+0)=10000 from rfl];omega) (by omega);simp only[JU,aN,bI,cO,dh];rw[show lG.length=4 from rfl];omega
 unfold oq;simp only[al];omega
def Ms{c:jd}(b:kI c.nm=true)(f:c.zs.length/3<=12)(e:∀i,i<c.zs.length/3->(0<=c.zs.getD (i*3) 0/\c.zs.getD (i*3) 0<=16)/\(1<=c.zs.getD (i*3+1) 0/\c.zs.getD (i*3+1) 0<=17)/\(-1000000000<=c.zs.getD (i*3+2) 0/\c.zs.getD (i*3+2) 0<=1000000000)):(ot c).length<=408:=by
 have a1:(iF [mc,VX c.nm]).length<=24:=by
  rw[lp _ (by simp)];have:=I7 b;simp only[JU,aN,bI,cO,dh];rw[show mc.length=6 from rfl];omega
 have a2:(((List.range (c.zs.length/3)).map (mK c.zs)).flatten).length<=32*12:=by
  refine af (pL (mK c.zs) 32 _ fun i hi=>?_) (by rw[dt];omega);obtain⟨g,h,a⟩:=e i (aJ.1 hi);unfold mK;rw[lp _ (by simp)];have b1:=ro (z:=c.zs.getD (i*3) 0) (d:=0) (k:=2) (by rw[show(10:Nat)^(2+0)=100 from rfl];omega) (by omega);have b2:=CO (p:=(c.zs.getD (i*3+1) 0).toNat);have b3:=wO (d:=oo (c.zs.getD (i*3+1) 0).toNat) a.1 a.2 (QC _);simp only[JU,aN,bI,cO,dh];rw[show lj.length=6 from rfl];omega
 unfold ot;rw[al];omega
def UN{x:gR}(h:iI x=true):(nO x).length<=13000:=by
 have a:=uH h
 have e:∀k,k<6->jO x k=true:=fun k o=>an.1 h k (aJ.2 o)
 have h2:jx x.i9 x.fs (x.fs.length/2)=true:=e 2 (by omega);have h3:VY x.p9 x.ws (x.ws.length/2)=true:=e 3 (by omega);have f:iW x.stop x.l=true:=e 4 (by omega);have h5:jo x.l x.cf=true:=e 5 (by omega);unfold jx at h2;rw[am]at h2;have u:=rV h2.2;unfold VY at h3;simp only[am]at h3;have v:=rV h3.1.2;unfold iW at f;simp only[am]at f;have w:=rV f.1.1.1.1;unfold jo at h5;simp only[am,aD]at h5;have A:=h5.1.2
 have a1:(Fq x).length<=100:=by
  have b0:=I7 (AL h);have b1:=wO (n:=x.i9) (d:=6) (by have:=a.i9;omega) (by have:=a.i9;omega) (by omega);have b2:=wO (n:=x.pb) (d:=6) (by have:=a.pb;omega) (by have:=a.pb;omega) (by omega);have b3:=ro (z:=x.stop) (d:=0) (k:=2) (by have:=a.stop;rw[show(10:Nat)^(2+0)=100 from rfl];omega) (by omega);have b4:=ro (z:=x.p9) (d:=0) (k:=2) (by have:=a.p9;rw[show(10:Nat)^(2+0)=100 from rfl];omega) (by omega)
  have t:(if x.i9=0 then lQ else iz x.i9 6).length<=12:=by
   split
   .decide
   .exact b1
  unfold Fq;simp only[al];rw[lp _ (by simp),lp _ (by simp),lp _ (by simp),lp _ (by simp),lp _ (by simp)];simp only[JU,aN,bI,cO,dh];rw[show xZ.length=4 from rfl,show sO.length=6 from rfl,show vA.length=5 from rfl,show Aa.length=4 from rfl,show qJ.length=7 from rfl];omega
 have a2:(((List.range (x.fs.length/2)).map (nE x.fs)).flatten).length<=32*5:=by
  refine af (pL (nE x.fs) 32 _ fun i hi=>?_) (by rw[dt];omega);obtain⟨j,m⟩:=a.fs i (aJ.1 hi);unfold nE;rw[lp _ (by simp)];have b1:=wO (d:=6) j.1 j.2 (by omega);have b2:=wO (d:=6) m.1 m.2 (by omega);simp only[JU,aN,bI,cO,dh];rw[show vB.length=5 from rfl];omega
 have a3:(((List.range (x.ws.length/2)).map (qK x.ws)).flatten).length<=32*5:=by
  refine af (pL (qK x.ws) 32 _ fun i hi=>?_) (by rw[dt];omega);obtain⟨j,m⟩:=a.ws i (aJ.1 hi);unfold qK;rw[lp _ (by simp)];have b1:=wO (n:=x.ws.getD (i*2) 0) (d:=3) (by omega) (by omega) (by omega);have b2:=wO (n:=x.ws.getD (i*2+1) 0) (d:=0) (by omega) (by omega) (by omega);simp only[JU,aN,bI,cO,dh];rw[show Ab.length=4 from rfl];omega
 have q:((x.l.map oq).flatten).length<=648*16:=af (pL oq 648 _ fun y p=>Mr (a.l y p)) (by omega)
 have r:((x.cf.map ot).flatten).length<=408*4:=by
  refine af (pL ot 408 _ fun c g=>Ms (AK h c g) ?_ (a.cf c g)) (by omega);have b:=an.1 h5.1.1 c g;unfold lr at b;split at b
  .cases b
  .exact bZ b
 have s:(iF [Fp]).length<=4:=by decide
 unfold nO;simp only[al];omega
def Gf{x:gR}(h:iI x=true):(nO x).length<=20000:=af (UN h) (by omega)

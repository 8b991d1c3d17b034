import Derived.Test.YtgohdcccfkjooaaGreatDoorQAB
namespace Go.Proofs.YtgohdcccfkjooaaGreatDoor
set_option linter.all false
set_option maxRecDepth 100000
set_option maxHeartbeats 1600000
open Go.RowKit Go.Proofs.Tryz
def EC{w:World}{x1 y1 x2 y2 c d t a}(b:Below (((w.alloc (.cells #[x1,y1] t)).alloc (.cells #[x2,y2] t)).alloc (.cells #[c,d] t)).heap.size (((w.alloc (.cells #[x1,y1] t)).alloc (.cells #[x2,y2] t)).alloc (.cells #[c,d] t)) a):
 a.heap[w.heap.size]? =some (.cells #[x1,y1] t (0,0))/\a.heap[w.heap.size+1]? =some (.cells #[x2,y2] t (0,0))/\a.heap[w.heap.size+2]? =some (.cells #[c,d] t (0,0))/\w.heap.size+3<=a.heap.size/\Below w w a:=by
 obtain⟨e,f,g⟩:=jh w (.cells #[x1,y1] t) (.cells #[x2,y2] t) (.cells #[c,d] t);have h:=b.size;simp at h;exact⟨(b.block _ (by simp;omega)).trans e,(b.block _ (by simp)).trans f,(b.block _ (by simp)).trans g,by omega,mA (mA (mA b))⟩
def R0(xs ys:List Int)(i:Nat)(a:List Int):Prop:=
 a.length=xs.length+ys.length/\mv a/\val a=val (xs.take i)*val ys
def R1(xs ys:List Int)(i k:Nat)(a:List Int):Prop:=
 a.length=xs.length+ys.length/\mv a/\val a=val (xs.take i)*val ys+xs.getD i 0*val (ys.take k)*1000000000^i
def R2(xs ys:List Int)(i k j:Nat)(t:Int)(a:List Int):Prop:=
 a.length=xs.length+ys.length/\mv a/\0<=t/\t<=999999998000000001/\val a+t*1000000000^j=val (xs.take i)*val ys+xs.getD i 0*val (ys.take (k+1))*1000000000^i
def R0.start(xs ys):R0 xs ys 0 (List.replicate (xs.length+ys.length) 0):=by
 refine⟨by simp,fun j _=>?_,?_⟩
 .simp only[ah,eR];split<;>simp
 .rw[uQ];simp[val]
def R0.row{xs ys a i}(h:R0 xs ys i a):R1 xs ys i 0 a:=⟨h.1,h.2.1,by rw[h.2.2];simp[val]⟩
def R1.done{xs ys a i}(h:R1 xs ys i ys.length a):R0 xs ys (i+1) a:=by
 refine⟨h.1,h.2.1,?_⟩;rw[h.2.2,jn,bf,cJ,bO,bO,bN (1000000000^i)]
def R1.dig{xs ys a i k}(h:R1 xs ys i k a)(c:mv xs)(d:mv ys):R2 xs ys i k (i+k) (xs.getD i 0*ys.getD k 0) a:=by
 obtain⟨h1,h2,h3⟩:=h;have b:=vj (c.all i) (d.all k);refine⟨h1,h2,b.1,b.2,?_⟩;rw[h3,jn,eh,cJ,Int.pow_add,fi]
 congr 2
 rw[bO,bO,bO,bN (1000000000^i)]
def R2.done{xs ys a i k j}(h:R2 xs ys i k j 0 a):R1 xs ys i (k+1) a:=⟨h.1,h.2.1,by have:=h.2.2.2.2;omega⟩
def R2.step{xs ys b i k j t}(h:R2 xs ys i k j t b)(c:j<b.length):
 R2 xs ys i k (j+1) ((t+b.getD j 0)/1000000000) (b.set j ((t+b.getD j 0)%1000000000)):=by
 obtain⟨h1,h2,h3,d,h5⟩:=h;have a:=h2.all j;refine⟨by simpa using h1,fun q _=>?_,by omega,by omega,?_⟩
 .rw[rH];split
  .omega
  .exact h2.all q
 .rw[Jj c,<- h5,dF]
  generalize b.getD j 0=z at*;generalize(1000000000:Int)^j=p
  have e:(t+z)%1000000000-z+(t+z)/1000000000*1000000000=t:=by omega
  rw[bN p 1000000000,<- bO,fi,<- cJ,e]
def xR{l}(h:mv l)(k):val (l.take k)<=val l:=by
 have e:val l=val (l.take k)+1000000000^(l.take k).length*val (l.drop k):=by rw[<- oD,cA]
 have p:(0:Int)<=1000000000^(l.take k).length:=Int.pow_nonneg (by decide);have:=eH p (jU (h.drop k));omega
def R2.within{xs ys c i k j t}(h:R2 xs ys i k j t c)(a:mv xs)(b:mv ys)(s:0<t):j<xs.length+ys.length:=by
 obtain⟨h1,h2,h3,o,h5⟩:=h
 apply bg
 intro r
 have e:val (xs.take i)*val ys+xs.getD i 0*val (ys.take (k+1))*1000000000^i<=val (xs.take (i+1))*val ys:=by
  have p:(0:Int)<=1000000000^i:=Int.pow_nonneg (by decide);rw[jn xs i,cJ,bO (xs.getD i 0) (1000000000^i),bO,bN (1000000000^i) (val ys)];have:=ed (bB (xR b (k+1)) p) (a.all i).1;omega
 have f:val (xs.take (i+1))*val ys<=val xs*val ys:=bB (xR a _) (jU b)
 have g:val xs*val ys<1000000000^(xs.length+ys.length):=by
  rw[Int.pow_add];have p1:=rZ a;have v:=rZ b;have d:=jU a;have u:=jU b;have q:(0:Int) <1000000000^ys.length:=fK (by decide)
  calc val xs*val ys<=val xs*1000000000^ys.length:=ed (by omega) d
   _<1000000000^xs.length*1000000000^ys.length:=Int.mul_lt_mul_of_pos_right p1 q
 have l:(1000000000:Int)^(xs.length+ys.length)<=t*1000000000^j:=by
  have x:(1000000000:Int)^(xs.length+ys.length)<=1000000000^j:=by
   have:=dA (n:=1000000000) (by decide) (show xs.length+ys.length<=j by omega);have:=Int.ofNat_le.2 this;rw[dM,dM]at this;exact this
  have w:(0:Int) <1000000000^j:=fK (by decide);have:1*1000000000^j<=t*1000000000^j:=bB (by omega) (by omega);omega
 have m:=jU h2;omega
def Ky(x y):x*y=if(decide (x<0) !=decide (y<0))=true then -((x.natAbs:Int)*y.natAbs)else(x.natAbs:Int)*y.natAbs:=by
 by_cases b:x<0
 .by_cases a:y<0
  .rw[aP b,aP a,aj (by decide),show(x.natAbs:Int)= -x by omega,show(y.natAbs:Int)= -y by omega,Int.neg_mul_neg]
  .rw[aP b,aw a,aq (by decide),show(x.natAbs:Int)= -x by omega,show(y.natAbs:Int)=y by omega,Int.neg_mul,Int.neg_neg]
 .by_cases a:y<0
  .rw[aw b,aP a,aq (by decide),show(x.natAbs:Int)=x by omega,show(y.natAbs:Int)= -y by omega,Int.mul_neg,Int.neg_neg]
  .rw[aw b,aw a,aj (by decide),show(x.natAbs:Int)=x by omega,show(y.natAbs:Int)=y by omega]
def qA(s t x y a b n m c d)(w:World)(ha:LG w w s a n c x)(hb:LG w w t b m d y)(H:(ip (x*y).natAbs).length<=600):
 Calls prog 174 #[.agg #[s,Z a n c],.agg #[t,Z b m d]] w (tb w (x*y)):=by
 have hn:=ha.2.2;have hm:=hb.2.2;have Ha:=O ha;have Hb:=O hb;have Q:=O H;clear ha hb H
 go_enter func174,ntmps174
 go_wp2_with(refine oE rfl (.tmp 16) (.tmp 16) 162 rfl underlying162 ((n:Int)+m) (n+m) rfl rfl (by omega) (by omega) ?_)
 intro R f T
 have F:Below (((w.alloc (.cells #[s,Z a n c] 221)).alloc (.cells #[t,Z b m d] 221)).alloc (.cells #[false,oN] 221)).heap.size
  (((w.alloc (.cells #[s,Z a n c] 221)).alloc (.cells #[t,Z b m d] 221)).alloc (.cells #[false,oN] 221)) R:=by simpa using T
 obtain⟨e1,e2,e3,d4,b1⟩:=EC F;clear T F
 have a4:w.heap.size+2<w.heap.size+1+1+1:=by omega
 have a3:w.heap.size+1+1+1<=w.heap.size+3:=by omega
 generalize w.heap.size+1+1+1=g at*;have L:=Ha.2.1;have M:=Hb.2.1;have a0:=iU x.natAbs;have a1:=iU y.natAbs;have a9:=iY x.natAbs;have b0:=iY y.natAbs;have c5:=L.len;have c6:=M.len;have a7:s=decide (x<0)/\t=decide (y<0):=⟨Ha.1,Hb.1⟩;generalize ip x.natAbs=xs at*;generalize ip y.natAbs=ys at*;obtain rfl:=c5;obtain rfl:=c6;have u:=O a0;have A:=O a1;have b9:=O a9;have c0:=O b0;have b3:=O L;have b4:=O M;have b7:=O a7;have r:=O a4;have c9:=O a3;have E1:=O e1;have E2:=O e2;have E3:=O e3;clear L M a0 a1 a9 b0 a7 Ha Hb e1 e2 e3 a4 a3
 go_wp2_with fail
 go_loopw [6] (fun v wr=>∃(i:Nat)(h:List Int),i<=xs.length/\v=.int .i64 i/\vO wr g h/\R0 xs ys i h/\Below g R wr) (fun v _=>xs.length-(intOf v).toNat)
 case atStart=>exact⟨0,_,aA _,rfl,f,R0.start xs ys,TH _ _⟩
 case round=>
  clear f;obtain⟨i,h,hi,rfl,f,q,l⟩:=hrel;have E:=(l.block w (by have:=r.out;omega)).trans E1;have g2:=(l.block (w+1) (by have:=r.out;omega)).trans E2;have g3:=(l.block (w+2) (by have:=r.out;omega)).trans E3;obtain⟨q1,q2,_,_⟩:=gQ E;obtain⟨q3,q4,_,_⟩:=gQ g2;obtain⟨q5,q6,q7,q8⟩:=gQ g3;clear E g2 g3
  by_cases c3:i<xs.length
  .obtain⟨wo,rfl⟩:∃wo:World,wo=wr:=⟨_,rfl⟩
   go_wp2_with fail
   clear q1 q2 q3 q4 q5 q6 q7 q8
   go_loopw [7] (fun v wr=>∃(k:Nat)(h:List Int),k<=ys.length/\v=.int .i64 k/\vO wr g h/\R1 xs ys i k h/\Below g R wr) (fun v _=>ys.length-(intOf v).toNat)
   case atStart=>exact⟨0,_,aA _,rfl,f,q.row,l⟩
   case round=>
    clear f q l;obtain⟨k,h,hk,rfl,f,q,l⟩:=hrel;have E:=(l.block w (by have:=r.out;omega)).trans E1;have g2:=(l.block (w+1) (by have:=r.out;omega)).trans E2;obtain⟨q1,q2,_,_⟩:=gQ E;obtain⟨q3,q4,_,_⟩:=gQ g2;clear E g2
    by_cases c4:k<ys.length
    .obtain⟨ba,oa,rfl,W,ca⟩:=b3.at (by omega)
     obtain⟨bb,ob,rfl,X,cb⟩:=b4.at (by omega);have B:=b1.trans (l.mono (by have:=r.out;omega));have E:=(B.cell (p:=⟨ba,oa+i,none⟩) W).trans (ca i c3);have g2:=(B.cell (p:=⟨bb,ob+k,none⟩) X).trans (cb k c4);have c7:=u.all i;have c8:=A.all k;have hq:=q.dig u A;clear ca cb W X B;generalize hxx:xs.getD i 0=xi at*;generalize hyy:ys.getD k 0=yk at*;have c1:=O hxx;have c2:=O hyy;clear hxx hyy;obtain⟨d1,d2⟩:=vj c7 c8;obtain⟨b2,rfl⟩:∃b2:World,b2=wr:=⟨_,rfl⟩
     go_wp2_with fail
     go_quiet (fail)
     go_wp2_with fail
     clear E g2 q1 q2 q3 q4
     go_loopw [8,9] (fun tv jv wr=>∃(j:Nat)(z:Int)(h:List Int),tv=.int .i64 z/\jv=.int .i64 (j:Int)/\vO wr g h/\R2 xs ys i k j z h/\Below g R wr/\(0<z->j<xs.length+ys.length)) (fun _ jv _=>xs.length+ys.length-(intOf jv).toNat)
     case atStart=>
      refine⟨i+k,_,h,by rw[<- c1,<- c2],by go_num,f,q.dig u A,gV l _,(q.dig u A).within u A⟩
     case round=>
      clear f q l hq;obtain⟨j,z,h,rfl,rfl,f,q,l,a5⟩:=hrel;have d5:=q.2.2.1;have d6:=q.2.2.2.1;have D:h.length=xs.length+ys.length:=q.1;have K:=O D;clear D
      by_cases P:0<z
      .have hj:=a5 P
       have g2:=f.cell (j:=j) (by have:=K.out;omega);have g3:=f.free j;have d3:=q.2.1.all j;have a8:=q.step (by have:=K.out;omega);generalize hoo:h.getD j 0=o at*;have d0:=O hoo;have S:=O a8;clear hoo a8 a5 q;go_wp2
       go_roundw
       case rel=>
        refine⟨j+1,_,_,rfl,by go_num,f.set j (by have:=K.out;omega) _,S,l.setCell (aa _) _,S.within u A⟩
       case measure=>simp[intOf];omega
      .obtain rfl:z=0:=by omega
       go_wp2
       go_roundw
       case rel=>exact⟨k+1,h,by omega,by go_num,f,q.done,l⟩
       case measure=>simp[intOf];omega
    .obtain rfl:k=ys.length:=by omega
     go_wp2
     go_roundw
     case rel=>exact⟨i+1,h,by omega,by go_num,f,q.done,l⟩
     case measure=>simp[intOf];omega
  .obtain rfl:i=xs.length:=by omega
   obtain⟨D,hd,hv⟩:=q;rw[bf]at hv;have N:=f.sl (c:=xs.length+ys.length) (by omega);rw[D]at N
   have P:x*y=if s !=t then -val h else val h:=by
    obtain⟨s1,s2⟩:=b7;rw[hv,b9,c0,s1,s2];exact Ky x y
   have a2:(ip (val h).toNat).length<=600:=by
    have h1:=jU hd
    have:(val h).toNat=(x*y).natAbs:=by rw[P];split<;>omega
    rw[this];exact Q
   have Hz:=O P;have b5:=O a2;have Hd:=O hd;have b8:=O N;clear P a2 hv D hd N
   go_wp2_with fail
   refine(nl (!(s==t)) h _ _ _ _ _ b8 Hd (by omega) b5 Hz).mono ?_;rintro e w2 ⟨s',a',n',c',rfl,a6,C,hf⟩
   have hlt:w.heap.size+2<wr.heap.size:=by have:=r.out;have:=f.lt;omega
   have k5:=(C.cell (p:=J (w+2)) hlt).trans q5;have k6:=(C.cell (p:=⟨w.heap.size+2,1,none⟩) hlt).trans q6;have k7:=(C.frozen (p:=J (w+2)) hlt).trans q7;have k8:=(C.frozen (p:=⟨w.heap.size+2,1,none⟩) hlt).trans q8;have B:=b1.trans (l.mono (by have:=r.out;omega));have b6:=O a6;have Hf:=O hf;clear a6 hf
   go_wp2_with fail
   refine ar (v:=.agg #[s',Z a' n' c']) ?_ rfl ?_
   .simp[results,results174,go_sem,k5,k6]
   .exact pF b6 (B.trans (C.mono B.size)) Hf (w+2) hlt (by omega) _ _
def sC(l){k}(h:l.length<=k):val (l.take k)=val l:=by rw[aM h]
def wY{a b p:Int}(c:0<p)(h:a*p<b*p):a<b:=Int.lt_of_mul_lt_mul_right h (by omega)
def Sr{x y m}(_:0<y)(o:m+1=(ip y).length)(j:x<y*1000000000)(r:y<=x){hi a bt}(h1:(ip x).getD (m+1) 0=hi)(h2:(ip x).getD m 0=a)(h3:(ip y).getD m 0=bt){k}(e:k=if(hi*1000000000+a)/(bt+1)=0 then 1 else(hi*1000000000+a)/(bt+1)):
 1<=k/\k<1000000000/\k*y<=x/\0<=hi/\hi<1000000000/\0<=a/\a<1000000000/\0<=bt/\bt<1000000000:=by
 have b:=(iU x).all (m+1);have c:=(iU x).all m;have d:=(iU y).all m;rw[h1]at b;rw[h2]at c;rw[h3]at d
 have f:(ip x).length<=m+2:=by
  refine iB ?_;have:=sb y;rw[<- o]at this
  calc x<y*1000000000:=j
   _<=1000000000^(m+1)*1000000000:=cm _ (by omega)
   _=1000000000^(m+2):=(bM ..).symm
 have v:(x:Int)=val ((ip x).take m)+(a+hi*1000000000)*1000000000^m:=by
  rw[<- iY x,<- sC (ip x) f,jn,jn,h1,h2,dF,cJ];rw[show hi*(1000000000^m*1000000000)=hi*1000000000*1000000000^m by rw[bN (1000000000^m),bO]];rw[fi]
 have w:(y:Int)=val ((ip y).take m)+bt*1000000000^m:=by
  rw[<- iY y,<- sC (ip y) (k:=m+1) (by omega),jn,h3]
 have B:0<=val ((ip x).take m):=jU ((iU x).take m)
 have C:val ((ip y).take m) <1000000000^m:=by
  have:=rZ ((iU y).take m);rw[bn,cD (by omega)]at this;exact this
 have q:(0:Int) <1000000000^m:=fK (by decide);generalize hP:(1000000000:Int)^m=p at*
 have t:(y:Int) <(bt+1)*p:=by rw[cJ];omega
 have A:(hi*1000000000+a)*p<=x:=by rw[Int.add_comm (hi*1000000000)];omega
 have n:hi*1000000000+a<(bt+1)*1000000000:=by
  refine wY q ?_
  have:(x:Int) <y*1000000000:=by omega
  have l:(y:Int)*1000000000<=(bt+1)*p*1000000000:=bB (by omega) (by decide);rw[bO,bN p,<- bO]at l;omega
 generalize hu:hi*1000000000+a=u at*
 have i:0<=u:=by omega
 have g:0<=u/(bt+1):=Int.ediv_nonneg i (by omega)
 have s:u/(bt+1) <1000000000:=by
  refine Int.ediv_lt_of_lt_mul (by omega) ?_;rw[bN];exact n
 have h:u/(bt+1)*(bt+1)<=u:=Int.ediv_mul_le _ (by omega);refine⟨?_,?_,?_,b.1,b.2,c.1,c.2,d.1,d.2⟩
 .rw[e];split<;>omega
 .rw[e];split<;>omega
 .rw[e];split
  .omega
  .have h5:u/(bt+1)*(y:Int)<=u/(bt+1)*((bt+1)*p):=ed (by omega) g
   rw[<- bO]at h5;have z:u/(bt+1)*(bt+1)*p<=u*p:=bB h (by omega);omega
def D1(c ys:List Int)(k:Int)(i:Nat)(b:Int)(a:List Int):Prop:=
 a.length=c.length/\mv a/\(∀j,i<=j->a.getD j 0=c.getD j 0)/\val (a.take i)+b*1000000000^i=val (c.take i)-k*val (ys.take i)/\ -1000000000<=b/\b<=0
def D1.start{a ys k}(h:mv a):D1 a ys k 0 0 a:=⟨rfl,h,fun _ _=>rfl,by simp[val],by omega,by omega⟩
def C5{x k:Int}(b:0<=x/\x<1000000000)(a:0<=k/\k<1000000000):0<=x*k/\x*k<=999999998000000001:=vj b a
def D1.step{f ys g k c i}(h:D1 f ys k i c g)(n:mv ys)(l:0<=k)(m:k<1000000000)(hi:i<f.length):
 D1 f ys k (i+1) ((f.getD i 0-ys.getD i 0*k+c)/1000000000) (g.set i ((f.getD i 0-ys.getD i 0*k+c)%1000000000)):=by
 obtain⟨h1,h2,h3,r,h5,s⟩:=h;have a:=h2.all i;rw[h3 i (aa _)]at a;have b:=C5 (n.all i) ⟨l,m⟩;refine⟨by simpa using h1,fun j _=>?_,fun j t=>?_,?_,by omega,by omega⟩
 .rw[rH];split
  .omega
  .exact h2.all j
 .rw[rH,aj (by omega)];exact h3 j (by omega)
 .rw[jn,jn,jn,rH,aq ⟨rfl,by omega⟩,List.take_set_of_le (aa _)]
  generalize f.getD i 0=d at*;generalize ys.getD i 0=y at*;generalize val (g.take i)=vo at*;generalize val (f.take i)=vr at*;generalize val (ys.take i)=vy at*;rw[dF];generalize(1000000000:Int)^i=p at*
  have e:(d-y*k+c)%1000000000*p+(d-y*k+c)/1000000000*(p*1000000000)=(d-y*k+c)*p:=by
   rw[bN p 1000000000,<- bO,<- cJ]
   congr 1
   omega
  have o:(d-y*k+c)*p=d*p-k*(y*p)+c*p:=by
   rw[cJ,Int.sub_mul,bN y k,bO]
  have q:k*(vy+y*p)=k*vy+k*(y*p):=eh _ _ _;omega
def D1.done{a ys b k c}(h:D1 a ys k a.length c b)(e:ys.length<=a.length)(f:k*val ys<=val a):mv b/\val b=val a-k*val ys:=by
 obtain⟨h1,h2,h3,d,h5,g⟩:=h;rw[<- h1,bf,h1,bf,sC ys e]at d;refine⟨h2,?_⟩;have hlt:=rZ h2;rw[h1]at hlt;have j:(0:Int) <1000000000^a.length:=fK (by decide);generalize(1000000000:Int)^a.length=p at*
 have:c=0:=by
  apply bg
  intro i;have:c*p<= -1*p:=bB (by omega) (by omega);omega
 subst this;omega

def uZ{N y k}(h:N<y*1000000000)(a:(ip y).length<=k):(ip N).length<=k+1:=by
 refine iB ?_;have h1:=sb y;have h3:=dA (n:=1000000000) (by decide) a;rw[bM];exact ab h (cm _ (by omega))
def Pt(zs a)(n c i:Nat)(b z)(w:World)(d:b=(i:Int))(h:SL w w a n c zs)(f:n<=1000000)(hi:i<=1000000)(g:zs.getD i 0=z):
 Calls prog 253 #[Z a n c,b] w (fun e w'=>e=.returned (.int .i64 z)/\w=w'):=by
 subst d;exact ux zs a n c i z w h f hi g
def BY(X)(h1: -999999998000000001-1000000000<=X)(h2:X<=999999999):
 -1000000000<=X.tdiv 1000000000/\X.tdiv 1000000000<=0/\ -1000000000<X.tmod 1000000000/\X.tmod 1000000000<1000000000/\
  ((0<=X.tmod 1000000000/\X.tdiv 1000000000=X/1000000000/\X.tmod 1000000000=X%1000000000)\/
   (X.tmod 1000000000<0/\X.tdiv 1000000000-1=X/1000000000/\X.tmod 1000000000+1000000000=X%1000000000)):=by
 by_cases h:0<=X
 .rw[bL h,bu h]
  omega
 .rw[xC (by omega),xB (by omega)]
  omega
def Kz(B:Nat)(w:World)(a:Option Addr)(n c:Nat)(r:Nat):Prop:=
 SL w w a n c (ip r)/\(n=0\/ ∃g,a=some ⟨g,0,none⟩/\vO w g (ip r)/\B<=g)/\(a=none->c=0)
def Pu(B:Nat)(w:World)(x y:Nat)(d b:Value)(wr:World):Prop:=
 ∃(r q:Nat)(a:Option Addr)(n c:Nat),d=.slice a n c/\b=.int .i64 (q:Int)/\x=q*y+r/\Kz B wr a n c r/\Below B w wr
def KA(B x y a b n m c d w)(ha:Kz B w a n c x)(hb:SL B w b m d (ip y))(hB:B<=w.heap.size)(hy:0<y)(e8:x<y*1000000000)(hm:m<=599):
 Calls prog 223 #[Z a n c,Z b m d] w
  (fun e w'=>∃a' n' c',e=.returned (.tuple #[Z a' n' c',.int .i64 ((x/y:Nat):Int)])/\Kz B w' a' n' c' (x%y)/\Below B w w'):=by
 have Ha:=O ha;have Hb:=O hb;have c8:=O e8;clear ha hb e8
 go_enter func223,ntmps223
 go_wp2_with fail
 go_loopw [0,6] (fun rv nv wr=>Pu B w x y rv nv wr) (fun _ nv _=>x-(intOf nv).toNat)
 case atStart=>exact⟨x,0,a,n,c,rfl,rfl,by omega,Ha,TH _ _⟩
 case round=>
  clear Ha;obtain⟨r,q,a,n,c,rfl,rfl,P,ho,R⟩:=hrel;have Hx:=O P;have z:=O ho;have e0:SL wr wr b m d (ip y):=(Hb.below R (aa _)).mono (by have:=R.size;omega);have d8:=O e0
  have hn:n<=600:=by
   rw[ho.1.len];exact uZ (y:=y) (cX (by have:=Hx.out;omega) c8) (by rw[<- Hb.len];exact hm)
  have hq:(q:Int) <1000000000:=by
   have h1:q*y<1000000000*y:=by have:=c8.out;rw[cd 1000000000];omega
   have:=Nat.lt_of_mul_lt_mul_right h1;omega
  clear P ho e0
  by_cases c3:r<y
  .have hd:decide (r<y)=true:=by simpa using c3
   go_wp2_with fail
   refine(tP r y a b n m c d _ z.1 d8 (by omega)).mono ?_;rintro e w2 ⟨rfl,nk,rfl⟩;rw[hd]
   have e5:q=x/y:=by
    rw[Hx];exact(Nat.div_eq_of_lt_le (by omega) (by rw[dB];omega)).symm
   have e6:r=x%y:=by
    rw[Hx,cd,Nat.mul_add_mod];exact(cV c3).symm
   have f0:=O e5;have f1:=O e6;clear hd c3 e5 e6;go_wp2;go_ret2;rw[<- f0,<- f1];exact⟨a,n,c,rfl,z,gV R _⟩
  .have hd:decide (r<y)=false:=by simpa using c3
   have e7:r<y*1000000000:=by have h1:=c8.out;have h2:=Hx.out;omega
   obtain⟨M,hM⟩:∃M,m=M+1:=⟨m-1,by
    have h1:=Hb.len
    have:(ip y).length≠0:=fun e=>by have:=jC.1 e;omega
    omega⟩
   have g7:(m:Int)-1=(M:Int):=by omega
   have g0:M<m:=by omega
   have HM:=O hM;clear hM
   have g6:M+1<=n:=by
    have hM:=HM.out;have h1:=Hb.len;have h2:=z.1.len;have h3:=iM (n:=y) (m:=r) (by omega);omega
   have g4:M<n:=by omega
   obtain⟨bb,ob,rfl,f3,cb⟩:=Hb.at (by omega);have d7:=z.2.1
   obtain hn0|⟨g,rfl,f,hgB⟩:=d7
   .omega
   have g1:=f.cell (j:=M) (by rw[<- z.1.len];omega);have g2:=(R.cell (p:=⟨bb,ob+M,none⟩) f3).trans (cb M (by omega));have f7:=O cb
   obtain⟨K,hK⟩:∃K:Int,K=if(((ip r).getD (M+1) 0)*1000000000+(ip r).getD M 0)/((ip y).getD M 0+1)=0 then 1 else(((ip r).getD (M+1) 0)*1000000000+(ip r).getD M 0)/((ip y).getD M 0+1):=⟨_,rfl⟩
   obtain⟨f9,c2,d9,h0,h1,h2,h3,D,h5⟩:=Sr (x:=r) (y:=y) (m:=M) hy (by rw[<- Hb.len,HM]) e7 (by omega) rfl rfl rfl hK;generalize hhi:(ip r).getD (M+1) 0=hi at*;generalize htop:(ip r).getD M 0=top at*;generalize hbt:(ip y).getD M 0=bt at*;have e1:(hi*1000000000+top).tdiv (bt+1)=(hi*1000000000+top)/(bt+1):=bL (by omega);have e2:0<=(hi*1000000000+top)/(bt+1):=Int.ediv_nonneg (by omega) (by omega);generalize hk0:(hi*1000000000+top)/(bt+1)=k0 at*
   have e3:¬(bt+1=0):=by omega
   have e4:k0<=K:=by rw[hK];split<;>omega
   have v1:IntKind.i64.wrap ((M:Int)+1)=(M:Int)+1:=TM _ (by omega);have v2:IntKind.i64.wrap (hi*1000000000)=hi*1000000000:=TM _ (by omega);have v3:IntKind.i64.wrap (hi*1000000000+top)=hi*1000000000+top:=TM _ (by omega);have v4:IntKind.i64.wrap (bt+1)=bt+1:=TM _ (by omega);have v5:IntKind.i64.wrap k0=k0:=TM _ (by omega);have f8:=O hk0;have e9:=O hhi;have c0:=O d9;have a0:=O f;clear hk0 htop hbt hhi cb d9 e7
   go_wp2_with fail
   refine(tP r y _ _ n m c d _ z.1 d8 (by omega)).mono ?_;rintro e w2 ⟨rfl,nk,rfl⟩;rw[hd];clear hd
   go_wp2_with fail
   refine gS 16 [(0,true),(1,true),(2,true),(5,true),(6,true),(7,true),(8,true),(10,true),(11,true),(12,true),(13,true),(14,true),(3,false),(4,true),(9,true),(15,true)] (by kernel_rfl) (by kernel_rfl) ?_
   iterate 12
    refine gU (v:=?_) rfl (fun _ _ _ h=>h) (by rfl) ?_ ?_;rotate_left
    .intro x P
     have z1:=(P.cell (p:=⟨g,M,none⟩) a0.lt).trans g1;have z2:=(P.cell (p:=⟨bb,ob+M,none⟩) (by show bb<wr.heap.size;have:=R.size;omega)).trans g2;go_simp
     with_reducible rfl
    try simp only[V]
   refine gP rfl rfl (fun KK N=>?_);go_simp;refine(Pt (ip r) _ n c (M+1) _ hi _ (by omega) (by exact z.1) (by omega) (by omega) e9).mono ?_;rintro e w4 ⟨rfl,rfl⟩;refine N _ _ (TH _ _) ?_;clear N KK
   try simp only[V]
   iterate 3
    refine gU (v:=?_) rfl (fun _ _ _ h=>h) (by rfl) ?_ ?_;rotate_left
    .intro x P
     go_simp
     with_reducible rfl
    try simp only[V]
   refine iu rfl ?_
   by_cases F:k0=0
   .have c1:K=1:=by rw[hK,aq F]
    have Q:=O c1;subst F;clear hK c1 e1 g1 g2
    go_wp2_with fail
    clear v1 v2 v3 v4 v5 e2 e3 e4;obtain⟨wo,rfl⟩:∃wo:World,wo=wr:=⟨_,rfl⟩
    go_loopw [9,10] (fun cv iv wr=>∃(i:Nat)(cr:Int)(l:List Int),cv=.int .i64 cr/\iv=.int .i64 (i:Int)/\i<=n/\vO wr g l/\D1 (ip r) (ip y) K i cr l/\Below B w wr) (fun _ iv _=>n-(intOf iv).toNat)
    case atStart=>exact⟨0,0,ip r,rfl,rfl,aA _,a0.drew _,D1.start (iU r),gV R _⟩
    case round=>
     obtain⟨i,cr,l,rfl,rfl,hi,f,s,k⟩:=hrel
     have b6:l.length=n:=by rw[s.1,<- z.1.len]
     have C:=O b6;clear b6
     by_cases d1:i<n
     .have g1:=f.cell (j:=i) (by have:=C.out;omega)
      rw[s.2.2.1 i (aa _)]at g1;have g3:=f.free i;have f6:=(iU r).all i;have d4:=(iU y).all i;have f4:=s.2.2.2.2.1;have f5:=s.2.2.2.2.2;have b9:=s.step (iU y) (by omega) c2 (by rw[<- z.1.len];exact d1);have a9:=(Hb.below k (aa _)).mono (show B<=wr.heap.size by have:=k.size;omega);have hgl:=f.lt;obtain⟨b1,b2⟩:=C5 d4 ⟨by omega,c2⟩;have c4:=O a9;generalize hxx:(ip r).getD i 0=ri at*;generalize hyy:(ip y).getD i 0=yi at*;generalize hpK:yi*K=p at*;generalize hX:ri-p+cr=X at*
      have x1: -999999998000000001-1000000000<=X:=by omega
      have x2:X<=999999999:=by omega
      have a7:=O b9;have c9:=O hyy;have Hp:=O s;clear b9 hyy hxx s a9
      first
       |(have d3:p=yi:=by
          rw[<- hpK,Q,Int.mul_one]
         subst d3
         clear hpK)
       |skip
      have v6:IntKind.i64.wrap p=p:=TM _ (by omega);have v7:IntKind.i64.wrap (ri-p)=ri-p:=TM _ (by omega);have v8:IntKind.i64.wrap X=X:=TM _ (by omega)
      go_wp2_with fail
      refine gS 12 [(0,true),(1,true),(2,true),(3,true),(4,true),(5,true),(7,true),(10,true),(6,false),(8,true),(9,true),(11,true)] (by kernel_rfl) (by kernel_rfl) ?_
      iterate 8
       refine gU (v:=?_) rfl (fun _ _ _ h=>h) (by rfl) ?_ ?_;rotate_left
       .intro x P
        have z1:=(P.cell (p:=⟨g,i,none⟩) hgl).trans g1;go_simp
        with_reducible rfl
       try simp only[V]
      refine gP rfl rfl (fun KK N=>?_);go_simp;refine(ux (ip y) _ m d i _ _ (by exact c4) (by omega) (by omega) c9).mono ?_;rintro e w4 ⟨rfl,rfl⟩;refine N _ _ (TH _ _) ?_;clear N KK
      try simp only[V]
      iterate 3
       refine gU (v:=?_) rfl (fun _ _ _ h=>h) (by rfl) ?_ ?_;rotate_left
       .intro x P
        go_simp
        with_reducible rfl
       try simp only[V]
      refine iu rfl ?_;have h3:=BY X x1 x2;generalize hQ0:X.tdiv 1000000000=Q0 at h3;generalize hR0:X.tmod 1000000000=R0 at h3;obtain⟨y1,y2,y3,y4,h3⟩:=h3;clear x1 x2
      obtain ⟨h3,D,h5⟩|⟨h3,D,h5⟩:=h3
      .have f2:¬R0<0:=by omega
       have H4:=O D;have H5:=O h5;clear D h5 h3;go_wp2
       go_roundw
       case rel=>
        refine⟨i+1,Q0,_,rfl,by go_num,by omega,f.set i (by have:=C.out;omega) R0,?_,gV (show Below B w (World.setCell wr ⟨g,i,none⟩ _)from k.setCell hgB _) 1⟩;have:=a7.out;rw[<- H4,<- H5]at this;exact this
       case measure=>simp[intOf];omega
      .have H4:=O D;have H5:=O h5;clear D h5
       go_wp2
       go_roundw
       case rel=>
        refine⟨i+1,Q0-1,_,rfl,by go_num,by omega,f.set i (by have:=C.out;omega) (R0+1000000000),?_,gV (show Below B w (World.setCell wr ⟨g,i,none⟩ _)from k.setCell hgB _) 1⟩;have:=a7.out;rw[<- H4,<- H5]at this;exact this
       case measure=>simp[intOf];omega
     .obtain rfl:i=n:=by omega
      have d0:mv l/\val l=val (ip r)-K*val (ip y):=by
       have d2:=z.1.len;have h:=s;rw[d2]at h;exact h.done (iM (by omega)) (by rw[iY,iY];exact c0)
      obtain⟨E,t⟩:=d0;rw[iY,iY]at t;obtain⟨u,b7⟩:∃u:Nat,(u:Int)=(r:Int)-K*y:=⟨((r:Int)-K*y).toNat,cH (by have:=c0.out;omega)⟩;obtain⟨kn,S⟩:∃kn:Nat,(kn:Int)=K:=⟨K.toNat,cH (by omega)⟩
      have b8:r=kn*y+u:=by
       have h1:(r:Int)=(kn:Int)*y+u:=by rw[S];omega
       rw[<- bW,<- et]at h1;exact ge.1 h1
      have W:val l=(u:Int):=by rw[t,b7]
      have H:(ip (val l).toNat).length<=600:=by
       rw[W,aI];have:=iM (n:=u) (m:=r) (by omega);rw[<- z.1.len]at this;omega
      have T:=f.sl (c:=c) (by have:=C.out;have:=z.1.cap;omega);rw[C]at T;have c6:=O T;have a1:=O E;have a2:=O H;have c7:=O W;have a6:=O b8;have a4:=O S;clear T E H W b8 S t b7 s;have hgl:=f.lt
      go_wp2_with fail
      refine(vX false l (u:Int) _ _ _ _ c6 a1 (by omega) a2 (by rw[c7];rfl)).mono ?_;rintro e w5 ⟨s5,a5,n5,c5,rfl,b4,a8,b3,b5,b0⟩;have a3:Below B w w5:=k.trans (a8.mono (by have:=k.size;omega))
      have o:Kz B w5 a5 n5 c5 u:=by
       refine⟨by simpa using b4.2.1,?_,b0⟩
       obtain h|⟨g5,h,hbk⟩:=b5
       .exact Or.inl h
       .by_cases d5:n5=0
        .exact Or.inl d5
        .refine Or.inr ⟨g5,h,by simpa using hbk,?_⟩
         have:=b3 g5 0 h (by omega);have:=k.size;omega
      have L:=O o;clear b4 b3 b5 o a8 b0
      go_wp2_with fail
      change (?K:Act->World->Prop) (Act.put ?A _ (Value.slice a5 n5 c5)) _
      go_wp2
      go_roundw
      case rel=>
       refine⟨u,q+kn,a5,n5,c5,rfl,?_,?_,L,a3⟩
       .have:=a4.out
        have h2:=Q.out
        first
         |(show Value.int .i64 _=Value.int .i64 _;congr 1;omega)
       .rw[Hx,a6,dB,cN]
      case measure=>
       have h1:=Hx.out;have h2:=a6.out;have h3:=a4.out;have D:=Q.out;have h5:kn*1<=kn*y:=eu _ hy;have h6:q*1<=q*y:=eu _ hy;simp[intOf];omega
   .have c1:K=k0:=by rw[hK,aj F]
    have d6:(k0==0)=false:=by simpa using F
    subst c1;clear hK F e1 g1 g2;have Q:=O (rfl:K=K)
    go_wp2_with fail
    clear v1 v2 v3 v4 v5 e2 e3 e4 d6;obtain⟨wo,rfl⟩:∃wo:World,wo=wr:=⟨_,rfl⟩
    go_loopw [9,10] (fun cv iv wr=>∃(i:Nat)(cr:Int)(l:List Int),cv=.int .i64 cr/\iv=.int .i64 (i:Int)/\i<=n/\vO wr g l/\D1 (ip r) (ip y) K i cr l/\Below B w wr) (fun _ iv _=>n-(intOf iv).toNat)
    case atStart=>exact⟨0,0,ip r,rfl,rfl,aA _,a0.drew _,D1.start (iU r),gV R _⟩
    case round=>
     obtain⟨i,cr,l,rfl,rfl,hi,f,s,k⟩:=hrel
     have b6:l.length=n:=by rw[s.1,<- z.1.len]
     have C:=O b6;clear b6
     by_cases d1:i<n
     .have g1:=f.cell (j:=i) (by have:=C.out;omega)
      rw[s.2.2.1 i (aa _)]at g1;have g3:=f.free i;have f6:=(iU r).all i;have d4:=(iU y).all i;have f4:=s.2.2.2.2.1;have f5:=s.2.2.2.2.2;have b9:=s.step (iU y) (by omega) c2 (by rw[<- z.1.len];exact d1);have a9:=(Hb.below k (aa _)).mono (show B<=wr.heap.size by have:=k.size;omega);have hgl:=f.lt;obtain⟨b1,b2⟩:=C5 d4 ⟨by omega,c2⟩;have c4:=O a9;generalize hxx:(ip r).getD i 0=ri at*;generalize hyy:(ip y).getD i 0=yi at*;generalize hpK:yi*K=p at*;generalize hX:ri-p+cr=X at*
      have x1: -999999998000000001-1000000000<=X:=by omega
      have x2:X<=999999999:=by omega
      have a7:=O b9;have c9:=O hyy;have Hp:=O s;clear b9 hyy hxx s a9
      first
       |(have d3:p=yi:=by
          rw[<- hpK,Q,Int.mul_one]
         subst d3
         clear hpK)
       |skip
      have v6:IntKind.i64.wrap p=p:=TM _ (by omega);have v7:IntKind.i64.wrap (ri-p)=ri-p:=TM _ (by omega);have v8:IntKind.i64.wrap X=X:=TM _ (by omega)
      go_wp2_with fail
      refine gS 12 [(0,true),(1,true),(2,true),(3,true),(4,true),(5,true),(7,true),(10,true),(6,false),(8,true),(9,true),(11,true)] (by kernel_rfl) (by kernel_rfl) ?_
      iterate 8
       refine gU (v:=?_) rfl (fun _ _ _ h=>h) (by rfl) ?_ ?_;rotate_left
       .intro x P
        have z1:=(P.cell (p:=⟨g,i,none⟩) hgl).trans g1;go_simp
        with_reducible rfl
       try simp only[V]
      refine gP rfl rfl (fun KK N=>?_);go_simp;refine(ux (ip y) _ m d i _ _ (by exact c4) (by omega) (by omega) c9).mono ?_;rintro e w4 ⟨rfl,rfl⟩;refine N _ _ (TH _ _) ?_;clear N KK
      try simp only[V]
      iterate 3
       refine gU (v:=?_) rfl (fun _ _ _ h=>h) (by rfl) ?_ ?_;rotate_left
       .intro x P
        go_simp
        with_reducible rfl
       try simp only[V]
      refine iu rfl ?_;have h3:=BY X x1 x2;generalize hQ0:X.tdiv 1000000000=Q0 at h3;generalize hR0:X.tmod 1000000000=R0 at h3;obtain⟨y1,y2,y3,y4,h3⟩:=h3;clear x1 x2
      obtain ⟨h3,D,h5⟩|⟨h3,D,h5⟩:=h3
      .have f2:¬R0<0:=by omega
       have H4:=O D;have H5:=O h5;clear D h5 h3;go_wp2
       go_roundw
       case rel=>
        refine⟨i+1,Q0,_,rfl,by go_num,by omega,f.set i (by have:=C.out;omega) R0,?_,gV (show Below B w (World.setCell wr ⟨g,i,none⟩ _)from k.setCell hgB _) 1⟩;have:=a7.out;rw[<- H4,<- H5]at this;exact this
       case measure=>simp[intOf];omega
      .have H4:=O D;have H5:=O h5;clear D h5
       go_wp2
       go_roundw
       case rel=>
        refine⟨i+1,Q0-1,_,rfl,by go_num,by omega,f.set i (by have:=C.out;omega) (R0+1000000000),?_,gV (show Below B w (World.setCell wr ⟨g,i,none⟩ _)from k.setCell hgB _) 1⟩;have:=a7.out;rw[<- H4,<- H5]at this;exact this
       case measure=>simp[intOf];omega
     .obtain rfl:i=n:=by omega
      have d0:mv l/\val l=val (ip r)-K*val (ip y):=by
       have d2:=z.1.len;have h:=s;rw[d2]at h;exact h.done (iM (by omega)) (by rw[iY,iY];exact c0)
      obtain⟨E,t⟩:=d0;rw[iY,iY]at t;obtain⟨u,b7⟩:∃u:Nat,(u:Int)=(r:Int)-K*y:=⟨((r:Int)-K*y).toNat,cH (by have:=c0.out;omega)⟩;obtain⟨kn,S⟩:∃kn:Nat,(kn:Int)=K:=⟨K.toNat,cH (by omega)⟩
      have b8:r=kn*y+u:=by
       have h1:(r:Int)=(kn:Int)*y+u:=by rw[S];omega
       rw[<- bW,<- et]at h1;exact ge.1 h1
      have W:val l=(u:Int):=by rw[t,b7]
      have H:(ip (val l).toNat).length<=600:=by
       rw[W,aI];have:=iM (n:=u) (m:=r) (by omega);rw[<- z.1.len]at this;omega
      have T:=f.sl (c:=c) (by have:=C.out;have:=z.1.cap;omega);rw[C]at T;have c6:=O T;have a1:=O E;have a2:=O H;have c7:=O W;have a6:=O b8;have a4:=O S;clear T E H W b8 S t b7 s;have hgl:=f.lt
      go_wp2_with fail
      refine(vX false l (u:Int) _ _ _ _ c6 a1 (by omega) a2 (by rw[c7];rfl)).mono ?_;rintro e w5 ⟨s5,a5,n5,c5,rfl,b4,a8,b3,b5,b0⟩;have a3:Below B w w5:=k.trans (a8.mono (by have:=k.size;omega))
      have o:Kz B w5 a5 n5 c5 u:=by
       refine⟨by simpa using b4.2.1,?_,b0⟩
       obtain h|⟨g5,h,hbk⟩:=b5
       .exact Or.inl h
       .by_cases d5:n5=0
        .exact Or.inl d5
        .refine Or.inr ⟨g5,h,by simpa using hbk,?_⟩
         have:=b3 g5 0 h (by omega);have:=k.size;omega
      have L:=O o;clear b4 b3 b5 o a8 b0
      go_wp2_with fail
      change (?K2:Act->World->Prop) (Act.put ?A2 _ (Value.slice a5 n5 c5)) _
      go_wp2
      go_roundw
      case rel=>
       refine⟨u,q+kn,a5,n5,c5,rfl,?_,?_,L,a3⟩
       .have:=a4.out
        have h2:=Q.out
        first
         |(show Value.int .i64 _=Value.int .i64 _;congr 1;omega)
       .rw[Hx,a6,dB,cN]
      case measure=>
       have h1:=Hx.out;have h2:=a6.out;have h3:=a4.out;have D:=Q.out;have h5:kn*1<=kn*y:=eu _ hy;have h6:q*1<=q*y:=eu _ hy;simp[intOf];omega
def Si(s:Bool)(m:Nat):Int:=if s then -(m:Int)else m
def QR(z):Si (decide (z<0)) z.natAbs=z:=by
 unfold Si
 by_cases h:z<0
 .rw[aP h,aq rfl];omega
 .rw[aw h,aj (by decide)];omega
def Pv(s){m g}(h:g ∣ m):Si s (m/g)=Si s m/g:=by
 unfold Si;cases s
 .simp
 .simp only[bX]
  rw[Int.natCast_ediv,Int.neg_ediv_of_dvd (Int.natCast_dvd_natCast.2 h)]
def zA(n){d}(a:d≠0):(mkRat n d).num=n/(n.natAbs.gcd d:Nat)/\(mkRat n d).den=d/n.natAbs.gcd d:=by
 rw[fX,eJ a,Rat.normalize_eq];exact⟨rfl,rfl⟩
section
variable{B:Nat}{P:Program}{ops:Array Oper}{Q:Exit->Act->World->Prop}{md:Region.Mode}
def qR(B:Nat)(P:Program)(md:Region.Mode)(ops:Array Oper)(Q:Exit->Act->World->Prop)(n:Nat):Nat->Array Bool->Act->World->Prop
 |0,listed,a,w=>Region.ready md ops listed=[]/\Q .normal a w
 |fuel+1,listed,a,w=>
  (Region.ready md ops listed=[]->Q .normal a w)/\
  ∀i∈Region.ready md ops listed,wpOp P ops Q i (fun a' w'=>(i<n->Below B w w')/\qR B P md ops Q n fuel (listed.setIfInBounds i true) a' w') a w
def tC{n:Nat}:∀(fuel:Nat)(b:Array Bool)(a:Act)(w:World),qR B P md ops Q n fuel b a w->wpAny P md ops Q fuel b a w
 |0,_,_,_,h=>h
 |fuel+1,_,_,_,h=>⟨h.1,fun i hi=>wpOp_mono (fun a' w' c=>tC fuel _ a' w' c.2) (h.2 i hi)⟩
def YieldsIf.stayB{o:Oper}{v:Value}{a:Act}{w w':World}(h:YieldsIf P ops (fun x=>Below B w x) o v a)(b:Below B w w'):
 YieldsIf P ops (fun x=>Below B w' x) o v a:=
 h.imp (fun⟨h1,h2⟩=>⟨h1,fun x c=>h2 x (b.trans c)⟩) id
def Gu{n i:Nat}{q:Oper}{v:Value}(hi:ops[i]? =some q)(t:∀(j:Nat)(o:Oper) cs b,ops[j]? =some o->o.op≠ .select cs b)
 (hs:Region.sinkB md ops n=true)(T:Region.chainB md ops n=true)(hn:n<ops.size)(L:i<n)
 (R:∀c a w,Q (.panic c) (a.put q.dst v) w->Q (.panic c) a w):
 ∀(fuel:Nat)(d:Array Bool)(a:Act)(w:World),HeadInv md ops n d->
  (∀j r,ops[j]? =some r->j≠i->d.getD j true=false->(∀e∈r.after,Region.binds md e=true->e.on≠i)->q.apart ops r=true)->
  i∈Region.ready md ops d->YieldsIf P ops (fun x=>Below B w x) q v a->
  qR B P md ops Q n fuel (d.setIfInBounds i true) (a.put q.dst v) w->qR B P md ops Q n (fuel+1) d a w:=by
 intro fuel
 induction fuel with
 |zero=>
  intro d a w _ _ p C H;refine⟨fun h=>(by rw[h]at p;cases p),fun j u=>?_⟩
  by_cases f:j=i
  .subst f;exact C.wpOp hi (TH _ _) ⟨fun _=>TH _ _,H⟩
  .have:=ready_mono u f
   rw[H.1]at this;cases this
 |succ fuel ih=>
  intro d a w F g p C H;have m:=(mem_ready.1 p).1;refine⟨fun h=>(by rw[h]at p;cases p),fun j u=>?_⟩
  have E:j<n:=by
   obtain h|h:=dC j n
   .exact h
   .exact absurd u (tail_waits hs T hn F _ i rfl L m j h)
  by_cases f:j=i
  .subst f;exact C.wpOp hi (TH _ _) ⟨fun _=>TH _ _,H⟩
  .have h1:=H.2 j (ready_mono u f)
   obtain⟨s,r,y,z⟩:=mem_ready.1 u
   have A:∀e∈r.after,Region.binds md e=true->e.on≠i:=fun e W S K=>by
    have h1:=z e W S;rw[K,getD_both m]at h1;cases h1
   have h2:=wpOp_putIf y (g j r y f s A) (fun cs b=>t i q cs b hi) (fun cs b=>t j r cs b y) R C h1
   have l:∀k ok,ops[k]? =some ok->k≠i->(d.setIfInBounds j true).getD k true=false->
    (∀e∈ok.after,Region.binds md e=true->e.on≠i)->q.apart ops ok=true:=fun k ok X M m N=>by
    refine g k ok X M ?_ N
    by_cases D:j=k
    .subst D;exact s
    .rw[getD_set_ne true D]at m;exact m
   refine wpOp_mono (fun a' w' h3=>⟨h3.2.1,ih (d.setIfInBounds j true) a' w' (F.set u E) l (ready_mono p (fu f)) (YieldsIf.stayB h3.1 (h3.2.1 E)) ?_⟩) h2;rw[cC _ _ f];exact h3.2.2
def sf(B:Nat)(P:Program)(ops:Array Oper)(Q:Exit->Act->World->Prop)(n:Nat):List (Nat×Bool)->Act->World->Prop
 |[],a,w=>wpList P ops Q (ops.toList.drop n) a w
 |(i,true)::rest,a,w=>∃o v,ops[i]? =some o/\YieldsIf P ops (fun x=>Below B w x) o v a/\(∀c a w,Q (.panic c) (a.put o.dst v) w->Q (.panic c) a w)/\sf B P ops Q n rest (a.put o.dst v) w
 |(i,false)::rest,a,w=>wpOp P ops Q i (fun a' w'=>Below B w w'/\sf B P ops Q n rest a' w') a w
def xF{n:Nat}{Q':Exit->Act->World->Prop}:∀(l:List Oper)(k:Nat)(b:Array Bool)(a:Act)(w:World),n<=k->(∀j,l[j]? =ops[k+j]?)->
 Region.seqB md ops l.length k b=true->wpList P ops Q' l a w->qR B P md ops Q' n l.length b a w
 |[],_,_,_,_,_,_,hB,h=>⟨by simpa[Region.seqB]using hB,h⟩
 |o::l,k,b,a,w,hk,hl,hB,h=>by
  have h0:ops[k]? =some o:=by simpa using(hl 0).symm
  simp only[aH,Region.seqB,am,aD]at hB;refine⟨fun h1=>(by rw[hB.1]at h1;cases h1),fun i hi=>?_⟩;rw[hB.1]at hi
  have c:i=k:=by simpa using hi
  subst c
  have hw:wpOp P ops Q' i (wpList P ops Q' l) a w:=by unfold wpOp;simp only[h0];exact h
  exact wpOp_mono (fun a' w' d=>⟨fun hlt=>absurd hlt (by omega),xF l (i+1) _ a' w' (by omega) (fun j=>by have:=hl (j+1);simpa[cN,fA 1 j]using this) hB.2 d⟩) hw
def tD{n:Nat}(c:Region.noSelect ops=true)(k:Region.sinkB md ops n=true)(f:Region.chainB md ops n=true)(g:n<ops.size):
 ∀(ord:List (Nat×Bool))(b:Array Bool)(a:Act)(w:World),HeadInv md ops n b->vN md ops n ord b=true->sf B P ops Q n ord a w->
  qR B P md ops Q n (ord.length+(ops.size-n)) b a w
 |[],b,a,w,_,hB,h=>by
  have:=xF (B:=B) (md:=md) (n:=n) (Q':=Q) (ops.toList.drop n) n b a w (aa _) (fun j=>by simp[cp]) (by simpa[vN]using hB) h;simpa using this
 |(i,true)::rest,b,a,w,inv,hB,h=>by
  obtain⟨o,v,p,r,q,h⟩:=h;simp only[vN,bX,am,aD]at hB;obtain⟨⟨⟨h1,h2⟩,h3⟩,e⟩:=hB
  have d:i∈Region.ready md ops b:=by simpa using h1
  have:=Gu p (Region.noSelect_spec c) k f g h3 q _ b a w inv (Region.free_spec p h2) d r (tD c k f g rest _ _ w (inv.set d h3) e h);rw[aH,show rest.length+1+(ops.size-n)=rest.length+(ops.size-n)+1 by omega];exact this
 |(i,false)::rest,b,a,w,inv,hB,h=>by
  simp only[vN,bC,de,am,aD]at hB;obtain⟨⟨h1,h3⟩,e⟩:=hB
  have d:i∈Region.ready md ops b:=by rw[h1];simp
  rw[aH,show rest.length+1+(ops.size-n)=rest.length+(ops.size-n)+1 by omega];refine⟨fun h0=>(by rw[h0]at h1;cases h1),fun j m=>?_⟩;rw[h1]at m
  obtain rfl:j=i:=by simpa using m
  exact wpOp_mono (fun a' w' l=>⟨fun _=>l.1,tD c k f g rest _ a' w' (inv.set d h3) e l.2⟩) h
def wT{id:Nat}{a:Act}{w:World}(n:Nat)(ord:List (Nat×Bool))(g:P.follows .mixedOrders=true)(e:wP .any ops n ord=true)
 (h:sf B P ops Q n ord a w.drew):(Code.region id ops true).wp P Q a w:=by
 simp only[wP,am,aD]at e;obtain⟨⟨⟨⟨⟨c,i⟩,b⟩,l⟩,f⟩,k⟩:=e
 have d:HeadInv .any ops n (Array.replicate ops.size false):=
  ⟨by simp,fun j o _ b=>(by rw[getD_replicate_false]at b;cases b),fun t _ m=>getD_in (by simpa using m) (getD_replicate_false _ _)⟩
 have:=tD (P:=P) (Q:=Q) c l f i ord _ a w.drew d k h;rw[b,show n+(ops.size-n)=ops.size by omega]at this;exact wp_region_any g (tC _ _ _ _ this)
def si{n i:Nat}{b:List (Nat×Bool)}{o:Oper}{v:Value}{a:Act}{w:World}(hi:ops.toList[i]? =some o)(d:∀c a w,Q (.panic c) (a.put o.dst v) w->Q (.panic c) a w)
 (hw:Region.wanted o (yielded ops a.tmps)=true)(e:∀x,Below B w x->(execOp a.eval o).run P x=.ok (.value v) x)
 (h:sf B P ops Q n b (a.put o.dst v) w):sf B P ops Q n ((i,true)::b) a w:=
 ⟨o,v,by rw[<- bc];exact hi,Or.inl ⟨hw,e⟩,d,h⟩
def xG{n i:Nat}{b:List (Nat×Bool)}{o:Oper}{a:Act}{w:World}(hi:ops.toList[i]? =some o)(c:o.guard=none)
 (h:∀K:Act->World->Prop,(∀a' w',Below B w w'->sf B P ops Q n b a' w'->K a' w')->o.wp P a w K Q):sf B P ops Q n ((i,false)::b) a w:=by
 have hw:Region.wanted o (yielded ops a.tmps)=true:=by simp[Region.wanted,c]
 rw[bc]at hi
 show wpOp P ops Q i _ a w
 unfold wpOp;simp only[hi,hw,bX];exact .inl (h _ fun a' w' h1 h2=>⟨h1,h2⟩)
def Gv{n:Nat}{a:Act}{w:World}{l:List Oper}(b:ops.toList.drop n=l)(h:wpList P ops Q l a w):sf B P ops Q n [] a w:=by
 subst b;exact h
end
def P0(xs:List Int)(y i:Nat)(a:List Int)(r:Nat):Prop:=
 a.length=xs.length/\mv a/\r<y/\val (xs.drop i)=val (a.drop i)*y+r
def P0.start{xs y}(a:0<y):P0 xs y xs.length (List.replicate xs.length 0) 0:=by
 refine⟨by simp,fun j _=>?_,a,by simp[val]⟩;simp only[ah,eR];split<;>simp
def P0.step{xs b}{y i r N:Nat}(h:P0 xs y (i+1) b r)(hi:i<xs.length)(k:(N:Int)=xs.getD i 0+1000000000*r)(f:mv xs)(g:0<y):
 P0 xs y i (b.set i ((N/y:Nat):Int)) (N%y)/\N<y*1000000000:=by
 obtain⟨h1,h2,h3,d⟩:=h;have a:=f.all i
 have c:N<y*1000000000:=by omega
 have n:N/y<1000000000:=eb (by omega)
 have m:(N:Int)=((N/y:Nat):Int)*y+((N%y:Nat):Int):=by
  have:=dc N y;rw[cd]at this;have h5:=ai (Nat.cast (R:=Int)) this;rw[et,bW]at h5;exact h5.symm
 have e:=cx N g;generalize N/y=Q at*;generalize N%y=R at*;refine⟨⟨by simpa using h1,fun j _=>?_,e,?_⟩,c⟩
 .rw[rH];split
  .omega
  .exact h2.all j
 .rw[Ea hi,Ea (l:=b.set i _) (by simpa using(by omega:i<b.length)),rH,aq ⟨rfl,by omega⟩,List.drop_set_of_lt (by omega),d]
  generalize val (b.drop (i+1))=v;rw[cJ,bO];generalize(Q:Int)*y=p at*;generalize v*(y:Int)=u at*;omega
def KB(w:World)(o p q r):((((w.alloc o).alloc p).alloc q).alloc r).heap[w.heap.size]? =some o/\((((w.alloc o).alloc p).alloc q).alloc r).heap[w.heap.size+1]? =some p/\
 ((((w.alloc o).alloc p).alloc q).alloc r).heap[w.heap.size+2]? =some q/\((((w.alloc o).alloc p).alloc q).alloc r).heap[w.heap.size+3]? =some r:=by
 obtain⟨a,b,c⟩:=jh w o p q;refine⟨?_,?_,?_,?_⟩
 .rw[TJ _ _ _ (by simp<;>omega)];exact a
 .rw[TJ _ _ _ (by simp<;>omega)];exact b
 .rw[TJ _ _ _ (by simp)];exact c
 .have:=TL (((w.alloc o).alloc p).alloc q) r
  simpa using this
def GM(w:World)(o p q r):Below w w ((((w.alloc o).alloc p).alloc q).alloc r):=
 ((((TH _ _).alloc (aa _) _).alloc (by simp) _).alloc (by simp;omega) _).alloc (by simp;omega) _
def MX(w:World)(base)(x:Int)(a:base<=w.heap.size):
 (w.alloc (.cells #[x] 3)).ownsRow base 3 1 (.slice (J (w.heap.size)) 1 1) 1 ([x].map (Value.int .i64)):=
 ⟨rfl,.inr ⟨w.heap.size,1,#[x],rfl,a,TL w _,aa _,by unfold maxLen;omega,rfl,rfl⟩⟩
def C9(s a n c x):
 ((Sem.run prog (Instr.field 221 (Value.agg #[Value.bool s,Value.slice a n c]) 1) x).andThen fun a w'=>Result.ok (Next.value a) w')=Result.ok (Next.value (Value.slice a n c)) x:=by
 kernel_rfl
def Ss(w:World)(x y:Int)(e:Ending)(w':World):Prop:=
 ∃s a n c s' a' n' c',e=.returned (.tuple #[.agg #[.bool s,Z a n c],.agg #[.bool s',Z a' n' c']])/\LG w' w' s a n c x/\LG w' w' s' a' n' c' y/\Below w w w'/\kS w a n/\kS w a' n'
def Bd(a b:Bool)(q:Nat):Int:=if(!(a==b))then -((q:Nat):Int)else((q:Nat):Int)
def GN(a:Bool)(r:Nat):Int:=if a then -((r:Nat):Int)else((r:Nat):Int)
def oO(F sy X f1 x y)(hX:X.natAbs=x)(hY:f1.natAbs=y)(a b n m c d)(w:World)(ha:LG w w F a n c X)(hb:LG w w sy b m d f1)(hy:0<y)(hm:m<=599):
 Calls prog 175 #[.agg #[F,Z a n c],.agg #[sy,Z b m d]] w (Ss w (Bd F sy (x/y)) (GN F (x%y))):=by
 have hn:=ha.2.2;have Ha:=O ha;have Hb:=O hb;clear ha hb
 go_enter func175,ntmps175
 go_wp2_with(refine oE rfl (.tmp 12) (.tmp 12) 162 rfl underlying162 (n:Int) n rfl rfl (by omega) (by omega) ?_)
 intro w1 s f3
 have q:Below ((((w.alloc (.cells #[F,Z a n c] 221)).alloc (.cells #[sy,Z b m d] 221)).alloc (.cells #[false,oN] 221)).alloc (.cells #[false,oN] 221)).heap.size
  ((((w.alloc (.cells #[F,Z a n c] 221)).alloc (.cells #[sy,Z b m d] 221)).alloc (.cells #[false,oN] 221)).alloc (.cells #[false,oN] 221)) w1:=by simpa using f3
 obtain⟨d1,d2,d3,d4⟩:=KB w (.cells #[F,Z a n c] 221) (.cells #[sy,Z b m d] 221) (.cells #[false,oN] 221) (.cells #[false,oN] 221);have e1:=(q.block _ (by simp<;>omega)).trans d1;have e2:=(q.block _ (by simp<;>omega)).trans d2;have e3:=(q.block _ (by simp)).trans d3;have e4:=(q.block _ (by simp)).trans d4;have j1:=(GM w _ _ _ _).trans (q.mono (by simp<;>omega));clear f3 q d1 d2 d3 d4
 have h7:w.heap.size+3<w.heap.size+1+1+1+1:=by omega
 generalize w.heap.size+1+1+1+1=g at*;have a9:=Ha.2.1;have c1:=Hb.2.1;rw[hX]at a9;rw[hY]at c1;have g9:=iU x;have j0:=iY x;have l1:=a9.len;generalize ip x=xs at*;obtain rfl:=l1;have b7:=O g9;have f0:=O j0;have j3:=O a9;have a7:=O c1;have l:=O h7;obtain⟨q1,q2,_,_⟩:=gQ e1;have E1:=O e1;have E2:=O e2;have E3:=O e3;have E4:=O e4;clear g9 j0 a9 c1 Ha Hb e1 e2 e3 e4 h7
 go_wp2_with fail
 clear q1 q2
 go_loopw [7,8] (fun rv iv wr=>∃(i r:Nat)(ra:Option Addr)(rn rc:Nat)(W:List Int),rv=.slice ra rn rc/\iv=.int .i64 ((i:Int)-1)/\i<=xs.length/\vO wr g W/\P0 xs y i W r/\SL wr wr ra rn rc (ip r)/\(ra=none->rc=0)/\kS (g+1) ra rn/\Below g w1 wr) (fun _ iv _=>(intOf iv+1).toNat)
 case atStart=>exact⟨xs.length,0,none,0,0,_,rfl,rfl,aa _,s,P0.start hy,by rw[jP];exact SL.nil _ _ _ _,fun _=>rfl,kS.zero _ _,TH _ _⟩
 case round=>
  clear s;obtain⟨i,r,ra,rn,rc,W,rfl,rfl,hi,s,hp,i8,b4,h6,D⟩:=hrel;have Hp:=O hp;have a0:=O i8;have d6:=O b4;have m2:=O h6;have hgl:=s.lt;have g1:=(D.block w (by have:=l.out;omega)).trans E1;have g2:=(D.block (w+1) (by have:=l.out;omega)).trans E2;have g3:=(D.block (w+2) (by have:=l.out;omega)).trans E3;have g4:=(D.block (w+3) (by have:=l.out;omega)).trans E4;obtain⟨q1,q2,_,_⟩:=gQ g1;obtain⟨q3,q4,_,_⟩:=gQ g2;obtain⟨q5,q6,f5,f6⟩:=gQ g3;obtain⟨q7,q8,f7,f8⟩:=gQ g4;clear g1 g2 g3 g4 hp i8 b4 h6
  by_cases h8:i=0
  .subst h8
   have hd:=Hp.out;obtain⟨i6,c3,c7,hv⟩:=hd;rw[dW,dW,f0]at hv
   have hq:val W=((x/y:Nat):Int)/\r=x%y:=by
    obtain⟨Q,hQ⟩:∃Q:Nat,(Q:Int)=val W:=⟨(val W).toNat,cH (jU c3)⟩;rw[<- hQ]at hv⊢
    have T:x=Q*y+r:=by
     rw[<- bW,<- et]at hv;exact ge.1 hv
    refine⟨?_,?_⟩
    .congr 1
     rw[T];exact(Nat.div_eq_of_lt_le (by omega) (by rw[dB];omega)).symm
    .rw[T,cd,Nat.mul_add_mod];exact(cV c7).symm
   obtain⟨c2,i5⟩:=hq
   have i1:(ip (val W).toNat).length<=600:=by
    rw[c2,aI];refine af (iB (k:=xs.length) ?_) hn;have h1:=rZ b7
    have h3:(x:Int) <((1000000000^xs.length:Nat):Int):=by rw[<- f0,dM];exact h1
    have h4:=gr.1 h3;have h2:=dp x y;omega
   have S:=s.sl (c:=xs.length) (by omega);rw[i6]at S;have d8:=O S;have k0:=O c3;have j6:=O i1;have j8:=O c2;have j9:=O i5;have k2:=O c7;clear S c3 i1 c2 i5 i6 hv c7
   go_wp2_with fail
   refine gS 11 [(0,true),(1,true),(2,true),(3,true),(4,true),(5,true),(7,true),(8,true),(9,true),(6,false),(10,false)] (by kernel_rfl) (by kernel_rfl) ?_
   iterate 9
    refine gU (v:=?_) rfl (fun _ _ _ h=>h) (by rfl) ?_ ?_;rotate_left
    .intro x T
     have z1:=(T.cell (p:=J (w.heap.size)) (by show w.heap.size<wr.heap.size;have:=l.out;omega)).trans q1;have z3:=(T.cell (p:=J (w+1)) (by show w.heap.size+1<wr.heap.size;have:=l.out;omega)).trans q3;go_simp
     with_reducible rfl
    try simp only[V]
   refine gP rfl rfl (fun KK o=>?_);go_simp;refine(nl (!(F==sy)) W (Bd F sy (x/y)) _ _ _ _ (by exact d8) k0 (by omega) j6 (by rw[j8];unfold Bd;rfl)).mono ?_;rintro e w4 ⟨s4,a4,n4,c4,rfl,b1,b9,h5⟩;refine o _ _ b9 ?_;clear o KK
   try simp only[V]
   have P:=gJ (k:=1) b9;have b5:SL w4 w4 ra rn rc (ip r):=a0.go P;have d7:=O b5;have a2:=O P;have d0:=O b1;have e7:=O h5;clear b5 b9 P b1 h5
   have l2:rn<=599:=by
    rw[a0.len];have:=iM (n:=r) (m:=y) (by have:=k2.out;omega);have h2:=a7.len;omega
   refine gP rfl rfl (fun KK o=>?_);go_simp;refine(nl F (ip r) (GN F (x%y)) _ _ _ _ (by exact d7) (iU r) (by omega) (by rw[iY,aI,<- a0.len];omega) (by rw[iY,j9];unfold GN;rfl)).mono ?_;rintro e w5 ⟨s5,H,E,c5,rfl,b2,t,a1⟩;refine o _ _ t ?_;clear o KK
   try simp only[V]
   have f:Below wr wr w5:=a2.trans (t.mono a2.size)
   have A:w.heap.size+3<wr.heap.size:=by have:=l.out;omega
   have k5:=(f.cell (p:=J (w+2)) (by show w.heap.size+2<wr.heap.size;omega)).trans q5;have k6:=(f.cell (p:=⟨w.heap.size+2,1,none⟩) (by show w.heap.size+2<wr.heap.size;omega)).trans q6;have k7:=(f.cell (p:=J (w+3)) A).trans q7;have k8:=(f.cell (p:=⟨w.heap.size+3,1,none⟩) A).trans q8;have l5:=(f.frozen (p:=J (w+2)) (by show w.heap.size+2<wr.heap.size;omega)).trans f5;have l6:=(f.frozen (p:=⟨w.heap.size+2,1,none⟩) (by show w.heap.size+2<wr.heap.size;omega)).trans f6;have l7:=(f.frozen (p:=J (w+3)) A).trans f7;have l8:=(f.frozen (p:=⟨w.heap.size+3,1,none⟩) A).trans f8;have d5:=O b2;have e8:=O a1;have a3:=O f;have c8:=O (t);clear b2 a1 t f q1 q2 q3 q4 q5 q6 q7 q8 f5 f6 f7 f8;refine iu rfl ?_
   go_wp2_with fail
   refine ar (v:=.tuple #[.agg #[s4,Z a4 n4 c4],.agg #[s5,Z H E c5]]) ?_ rfl ?_
   .simp[results,results175,go_sem,k5,k6,k7,k8]
   .have l0:=d0.go (gJ (k:=0) c8)
    have o4:mx 0 wr a4 n4:=mx.ofFresh e7;have o5:mx 0 wr H E:=mx.ofFresh (e8.mono a2.size);have m4:=mI (mI l0 o4 (aA (w+2)) (by omega) (.bool s4) (.slice a4 n4 c4)) o4 (aA (w+3)) (by omega) (.bool s5) (.slice H E c5);have m5:=mI (mI d5 o5 (aA (w+2)) (by omega) (.bool s4) (.slice a4 n4 c4)) o5 (aA (w+3)) (by omega) (.bool s5) (.slice H E c5);have z:=j1.trans (D.mono (by have:=l.out;omega));have l3:=z.trans (a3.mono z.size);refine⟨s4,a4,n4,c4,s5,H,E,c5,rfl,m4,m5,(((l3.setCell ?_ _).setCell ?_ _).setCell ?_ _).setCell ?_ _,e7.mono z.size,e8.mono (af z.size a2.size)⟩
    .show w.heap.size<=w.heap.size+2;omega
    .show w.heap.size<=w.heap.size+2;omega
    .show w.heap.size<=w.heap.size+3;omega
    .show w.heap.size<=w.heap.size+3;omega
  .obtain⟨i,rfl⟩:∃j,i=j+1:=⟨i-1,by omega⟩
   have e0:(((i+1:Nat):Int)-1)=(i:Int):=by omega
   rw[e0];clear e0 h8
   have h9:i<xs.length:=by omega
   obtain⟨ba,oa,rfl,f9,ca⟩:=j3.at (by omega);have z:=j1.trans (D.mono (by have:=l.out;omega));have g1:=(z.cell (p:=⟨ba,oa+i,none⟩) f9).trans (ca i h9);have l4:=b7.all i;generalize hxx:xs.getD i 0=xi at*;have k9:=O hxx;have k4:=O z;clear ca f9 hxx z
   have l2:rn<=599:=by
    have h1:=Hp.2.2.1;rw[a0.len];have:=iM (n:=r) (m:=y) (by omega);have h2:=a7.len;omega
   go_wp2_with(refine ju rfl (.tmp 27) (.tmp 28) 162 rfl underlying162 wr _ 1 [xi] rfl (MX wr _ xi (aa _)) _ ra rn rc (ip r) rfl (a0.alloc _) d6 (by omega) (by simp) ?_)
   intro v' w2 R K;have C:Below wr wr w2:=((TH _ _).alloc (aa _) _).grown K (by simp) (by intro k hk;simp[Value.ownBlock]at hk;omega);obtain⟨va,vc,rfl⟩:=kx R;have i2:=ur (zs:=[xi]++ip r) (by simpa using R);obtain⟨N,hN⟩:∃N:Nat,(N:Int)=xi+1000000000*r:=⟨xi.toNat+1000000000*r,by omega⟩;have M:=Hp.step h9 (by rw[k9];exact hN) b7 hy;obtain⟨M,b8⟩:=M
   have i9:val ([xi]++ip r)=(N:Int):=by rw[oD,iY,hN];simp[val]
   have g8:mv ([xi]++ip r):=(mv.cons l4 mv.nil).append (iU r)
   have f2:(ip N).length<=600:=by
    exact uZ b8 (by rw[<- a7.len];exact hm)
   have g0:=(a7.go k4).go C;have m6:=C.size;have d9:=D.trans (C.mono (by omega));have m0:=(C.cell (p:=J (w+1)) (by show w.heap.size+1<wr.heap.size;have:=l.out;omega)).trans q3;have m1:=(C.cell (p:=⟨w.heap.size+1,1,none⟩) (by show w.heap.size+1<wr.heap.size;have:=l.out;omega)).trans q4
   have b3:w.heap.size+1<w2.heap.size:=by have:=l.out;omega
   have j7:=O i2;have k3:=O M;have e9:=O i9;have j5:=O g8;have j2:=O f2;have j4:=O g0;have e6:=O b8;clear R K i2 M i9 g8 f2 g0 hN b8 q1 q2 q3 q4 q5 q6 q7 q8 f5 f6 f7 f8 g1
   go_wp2_with fail
   refine wT (B:=w2.heap.size) 13 [(0,true),(1,true),(2,true),(5,true),(6,true),(3,false),(4,true),(7,false),(8,true),(9,true),(10,true),(11,true),(12,true)] (by kernel_rfl) (by kernel_rfl) ?_
   iterate 5
    refine si (v:=?_) rfl (fun _ _ _ h=>h) (by rfl) ?_ ?_;rotate_left
    .intro x T
     have z1:=(T.cell (p:=J (w+1)) b3).trans m0;have z2:=(T.cell (p:=⟨w.heap.size+1,1,none⟩) b3).trans m1;go_simp
     with_reducible rfl
    try simp only[V]
   refine xG rfl rfl (fun KK o=>?_);go_simp;refine(vX false ([xi]++ip r) (N:Int) va (1+rn) vc _ (by exact j7) j5 (by omega) (by rw[e9,aI];exact j2) (by rw[e9];rfl)).mono ?_;rintro e w4 ⟨s5,H,E,c5,rfl,i0,t,a1,i3,g7⟩;refine o _ _ t ?_;clear o KK
   try simp only[V]
   have L:Kz w2 w4 H E c5 N:=by
    refine⟨by simpa using i0.2.1,?_,g7⟩
    obtain h|⟨g5,h,hbk⟩:=i3
    .exact Or.inl h
    .by_cases l9:E=0
     .exact Or.inl l9
     .exact Or.inr ⟨g5,h,by simpa using hbk,a1 g5 0 h (by omega)⟩
   have b0:SL w2 w4 b m d (ip y):=j4.below (gJ (k:=1) t) (aa _);have b6:=O L;have c9:=O b0;have f:=gJ (k:=1) t;have a3:=O f;clear i0 a1 i3 g7 L b0 t f;refine si (v:=.slice H E c5) rfl (fun _ _ _ h=>h) (by rfl) (fun x _=>C9 s5 H E c5 x) ?_
   try simp only[V]
   refine xG rfl rfl (fun KK o=>?_);go_simp;refine(KA w2 N y H b E m c5 d _ b6 c9 a3.size hy e6 hm).mono ?_;rintro e w5 ⟨a6,n6,c6,rfl,i4,c0⟩;refine o _ _ c0 ?_;clear o KK
   try simp only[V]
   have f4:Below w2 w2 w5:=a3.trans c0;have e5:=d9.trans (f4.mono (by omega));have u:vO w5 g W:=s.below (C.trans (f4.mono C.size)) hgl;have g5:=u.free i;have g6:=u.cell (j:=i) (by rw[Hp.1];omega);have a8:=O i4;clear i4 c0;have m3:((N/y:Nat):Int) <1000000000:=gr.2 (eb e6);generalize hQ:((N/y:Nat):Int)=Q at*
   iterate 5
    refine si (v:=?_) rfl (fun _ _ _ h=>h) (by rfl) ?_ ?_;rotate_left
    .intro x T
     go_simp
     with_reducible rfl
    try simp only[V]
   refine Gv rfl ?_;have i7:=Hp.1;have k1:=O i7;have HQ:=O hQ;clear i7 hQ;go_wp2
   go_roundw
   case rel=>
    have hs:=u.set i (by rw[k1];omega) Q;have M:=k3.out;refine⟨i,N%y,a6,n6,c6,_,rfl,by go_num,by omega,hs,M,?_,a8.2.2,?_,e5.setCell (aa _) _⟩
    .exact a8.1.setCell ⟨g,i,none⟩ (.int .i64 Q) (fun b off e h0=>by
      obtain h|⟨gz,h,_,hgz⟩:=a8.2.1
      .omega
      .rw[h]at e;injection e with e;injection e with e1;show b≠g;omega)|>fun h=>by simpa using h
    .obtain h|⟨gz,h,_,hgz⟩:=a8.2.1
     .rw[h];exact kS.zero _ _
     .rw[h];exact kS.mk (by omega) _
   case measure=>simp[intOf]
section
variable{B:Nat}{P:Program}{ops:Array Oper}{Q:Exit->Act->World->Prop}{md:Region.Mode}
def Gx{i:Nat}{n:Oper}{v:Value}(hi:ops[i]? =some n)(s:∀(j:Nat)(o:Oper) cs b,ops[j]? =some o->o.op≠ .select cs b)
 (L:∀c a w,Q (.panic c) (a.put n.dst v) w->Q (.panic c) a w):
 ∀(fuel:Nat)(d:Array Bool)(a:Act)(w:World),
  (∀j p,ops[j]? =some p->j≠i->d.getD j true=false->(∀e∈p.after,Region.binds md e=true->e.on≠i)->n.apart ops p=true)->
  i∈Region.ready md ops d->YieldsIf P ops (fun x=>Below B w x) n v a->
  qR B P md ops Q ops.size fuel (d.setIfInBounds i true) (a.put n.dst v) w->qR B P md ops Q ops.size (fuel+1) d a w:=by
 intro fuel
 induction fuel with
 |zero=>
  intro d a w _ m A H;refine⟨fun h=>(by rw[h]at m;cases m),fun j y=>?_⟩
  by_cases f:j=i
  .subst f;exact A.wpOp hi (TH _ _) ⟨fun _=>TH _ _,H⟩
  .have:=ready_mono y f
   rw[H.1]at this;cases this
 |succ fuel S=>
  intro d a w g m A H;have t:=(mem_ready.1 m).1;refine⟨fun h=>(by rw[h]at m;cases m),fun j y=>?_⟩
  by_cases f:j=i
  .subst f;exact A.wpOp hi (TH _ _) ⟨fun _=>TH _ _,H⟩
  .have h1:=H.2 j (ready_mono y f)
   obtain⟨q,p,r,u⟩:=mem_ready.1 y;have E:j<ops.size:=(cu.1 r).1
   have z:∀e∈p.after,Region.binds md e=true->e.on≠i:=fun e N M D=>by
    have h1:=u e N M;rw[D,getD_both t]at h1;cases h1
   have h2:=wpOp_putIf r (g j p r f q z) (fun cs b=>s i n cs b hi) (fun cs b=>s j p cs b r) L A h1
   have l:∀k ok,ops[k]? =some ok->k≠i->(d.setIfInBounds j true).getD k true=false->
    (∀e∈ok.after,Region.binds md e=true->e.on≠i)->n.apart ops ok=true:=fun k ok R F t K=>by
    refine g k ok R F ?_ K
    by_cases C:j=k
    .subst C;exact q
    .rw[getD_set_ne true C]at t;exact t
   refine wpOp_mono (fun a' w' h3=>⟨h3.2.1,S (d.setIfInBounds j true) a' w' l (ready_mono m (fu f)) (YieldsIf.stayB h3.1 (h3.2.1 E)) ?_⟩) h2;rw[cC _ _ f];exact h3.2.2
def Ec(B:Nat)(P:Program)(ops:Array Oper)(Q:Exit->Act->World->Prop):List Nat->Nat->Array Bool->Act->World->Prop
 |[],m,listed,a,w=>qR B P .any ops Q ops.size m listed a w
 |i::rest,m,listed,a,w=>∃o v,ops[i]? =some o/\YieldsIf P ops (fun x=>Below B w x) o v a/\Ec B P ops Q rest m (listed.setIfInBounds i true) (a.put o.dst v) w
def CU(ops:Array Oper):List Nat->Array Bool->Bool
 |[],_=>true
 |i::rest,listed=>(Region.ready .any ops listed).contains i&&Region.free .any ops listed i&&CU ops rest (listed.setIfInBounds i true)
def vR(e:Region.noSelect ops=true)(g:∀c a o u w,Q (.panic c) (a.put o u) w->Q (.panic c) a w):
 ∀(d:List Nat)(m:Nat)(b:Array Bool)(a:Act)(w:World),CU ops d b=true->Ec B P ops Q d m b a w->qR B P .any ops Q ops.size (d.length+m) b a w
 |[],m,b,a,w,_,h=>by rw[cI,aV];exact h
 |i::d,m,b,a,w,hB,h=>by
  simp only[CU,am]at hB;obtain⟨⟨h1,h2⟩,h3⟩:=hB;obtain⟨o,v,j,k,h⟩:=h
  have h1:i∈Region.ready .any ops b:=by simpa using h1
  have f:=vR e g d m (b.setIfInBounds i true) (a.put o.dst v) w h3 h;rw[show(i::d).length+m=(d.length+m)+1 by rw[aH];omega];exact Gx j (Region.noSelect_spec e) (fun c a w=>g c a o.dst v w) _ _ _ w (Region.free_spec j h2) h1 k f
def jw{id:Nat}{a:Act}{w:World}(B:Nat)(d:List Nat)(m:Nat)
 (i:P.follows .mixedOrders=true)(f:ops.size=d.length+m)(b:Region.noSelect ops=true)(g:CU ops d (Array.replicate ops.size false)=true)
 (e:∀c a o u w,Q (.panic c) (a.put o u) w->Q (.panic c) a w)
 (h:Ec B P ops Q d m (Array.replicate ops.size false) a w.drew):(Code.region id ops true).wp P Q a w:=by
 have:=vR b e d m (Array.replicate ops.size false) a w.drew g h;rw[<- f]at this;exact wp_region_any i (tC _ _ _ _ this)
def jW{i m:Nat}{c:List Nat}{o:Oper}{v:Value}{b:Array Bool}{a:Act}{w:World}(hi:ops.toList[i]? =some o)
 (hw:Region.wanted o (yielded ops a.tmps)=true)(d:∀x,Below B w x->(execOp a.eval o).run P x=.ok (.value v) x)
 (h:Ec B P ops Q c m (b.setIfInBounds i true) (a.put o.dst v) w):Ec B P ops Q (i::c) m b a w:=
 ⟨o,v,by rw[<- bc];exact hi,Or.inl ⟨hw,d⟩,h⟩
def mB{m:Nat}{b:Array Bool}{a:Act}{w:World}(h:qR B P .any ops Q ops.size m b a w):Ec B P ops Q [] m b a w:=h
def ia{n fuel i:Nat}{o:Oper}{b:Array Bool}{a:Act}{w:World}(d:Region.ready md ops b=[i])(hi:ops.toList[i]? =some o)(e:o.guard=none)
 (h:∀K:Act->World->Prop,(∀a' w',Below B w w'->qR B P md ops Q n fuel (b.setIfInBounds i true) a' w'->K a' w')->o.wp P a w K Q):qR B P md ops Q n (fuel+1) b a w:=by
 have hw:Region.wanted o (yielded ops a.tmps)=true:=by simp[Region.wanted,e]
 rw[bc]at hi;refine⟨fun h0=>(by rw[d]at h0;cases h0),fun j c=>?_⟩;rw[d]at c
 obtain rfl:j=i:=by simpa using c
 unfold wpOp;simp only[hi,hw,bX];exact .inl (h _ fun a' w' h1 h2=>⟨fun _=>h1,h2⟩)
def CV{n fuel i j:Nat}{o c:Oper}{b:Array Bool}{a:Act}{w:World}(g:Region.ready md ops b=[i,j])(hi:ops.toList[i]? =some o)(f:ops.toList[j]? =some c)(p:o.guard=none)(e:c.guard=none)
 (h:∀K:Act->World->Prop,(∀a' w',Below B w w'->qR B P md ops Q n fuel (b.setIfInBounds i true) a' w'->K a' w')->o.wp P a w K Q)
 (m:∀K:Act->World->Prop,(∀a' w',Below B w w'->qR B P md ops Q n fuel (b.setIfInBounds j true) a' w'->K a' w')->c.wp P a w K Q):qR B P md ops Q n (fuel+1) b a w:=by
 have hw:Region.wanted o (yielded ops a.tmps)=true:=by simp[Region.wanted,p]
 have l:Region.wanted c (yielded ops a.tmps)=true:=by simp[Region.wanted,e]
 rw[bc]at hi f;refine⟨fun h0=>(by rw[g]at h0;cases h0),fun k d=>?_⟩;rw[g]at d;simp only[aS,bi,cR]at d
 obtain rfl|rfl:=d
 .unfold wpOp
  simp only[hi,hw,bX];exact .inl (h _ fun a' w' h1 h2=>⟨fun _=>h1,h2⟩)
 .unfold wpOp
  simp only[f,l,bX];exact .inl (m _ fun a' w' h1 h2=>⟨fun _=>h1,h2⟩)
def lH{n:Nat}{b:Array Bool}{a:Act}{w:World}(c:Region.ready md ops b=[])(h:Q .normal a w):qR B P md ops Q n 0 b a w:=⟨c,h⟩
end
end Go.Proofs.YtgohdcccfkjooaaGreatDoor

import Derived.Test.YtlnbjinneegciabGreatDoorTAA
namespace Go.Proofs.YtlnbjinneegciabGreatDoor
set_option linter.all false
set_option maxRecDepth 100000
set_option maxHeartbeats 3200000
open Go.Proofs.Tryz Go.RowKit
def Pd(s:gW)(a:Option Addr)(n c:Nat)(w:World)(hk:s.kind=1)(h0:s.order=0):Calls prog 143 #[.agg (⟨s,a,n,c⟩:jt)] w (sj w (rJ s) a n c):=by
 obtain⟨kind,r9,i4,i5,cm,a0,a1,a2,a3,p0,p1,order,tg,gA,i6,i7,dx,dy,ax,ay,az⟩:=s;obtain rfl:kind=1:=hk;obtain⟨E1:HQ _,E2:HQ _,E3:HQ _⟩:=BB w (.cells #[.int .i64 1,r9,i4,i5,cm,a0,a1,a2,a3,p0,p1,order,tg,gA,i6,i7,dx,dy,ax,ay,az,Z a n c] 58) (.cells zS 58) (.cells zS 58);have Hb:=O (wU w (.cells #[.int .i64 1,r9,i4,i5,cm,a0,a1,a2,a3,p0,p1,order,tg,gA,i6,i7,dx,dy,ax,ay,az,Z a n c] 58) (.cells zS 58) (.cells zS 58));have h0:order=0:=h0
 have H:(order !=0)=false:=by simpa using h0
 have H0:=O h0;clear h0;go_enter func143,ntmps143
 go_upto_region 4 with(refine hE (g:=w.heap.size+2) ⟨1,0,0,0,0,0,0,0,0,0,0,0,tg,ik,0,0,0,0,0,0,0⟩ none 0 0 E3 rfl rfl (.tmp 3) (.tmp 8) rfl rfl rfl ?_;refine jJ (fun d=>Y d w ⟨1,r9,i4,i5,cm,a0,a1,a2,a3,p0,p1,order,tg,gA,i6,i7,dx,dy,ax,ay,az⟩ a n c/\d.heap[w.heap.size+1]? =some (.cells zS 58 (0,0))/\Y d (w+1+1) ⟨1,0,0,0,0,0,0,0,0,0,0,0,tg,ik,0,0,0,0,0,0,0⟩ none 0 0/\Below w w d) ⟨vS.other E1 (by omega) _ _ _ _,vS.other E2 (by omega) _ _ _ _,Y.stored E3 rfl _ _ _ _,Below.put22 Hb (by omega) _ _ _ _⟩ ?_;rintro w1 ⟨h1,h2,h3,hb⟩;have C:=Y.cells h1;obtain⟨z0,z1,z2,z3,z4,z5,z6,z7,z8,z9,j,l,m,p,q,r,t,u,x,z,A,B⟩:=h3.cells;have D:=Y.free h3 5;have f6:=Y.free h3 6;have f7:=Y.free h3 7;have f8:=Y.free h3 8)
 go_upto_region 5 with fail;have e:=VW (k:=8) (v:=.int .i64 a3) (VW (k:=7) (v:=.int .i64 a2) (VW (k:=6) (v:=.int .i64 a1) (VW (k:=5) (v:=.int .i64 a0) (h3))));simp only[aZ,aW]at e;have F:=(gF (gF (gF (gF h1 ⟨w.heap.size+1+1,5,none⟩ (by show w.heap.size+1+1≠w.heap.size;omega) (.int .i64 a0)) ⟨w.heap.size+1+1,6,none⟩ (by show w.heap.size+1+1≠w.heap.size;omega) (.int .i64 a1)) ⟨w.heap.size+1+1,7,none⟩ (by show w.heap.size+1+1≠w.heap.size;omega) (.int .i64 a2)) ⟨w.heap.size+1+1,8,none⟩ (by show w.heap.size+1+1≠w.heap.size;omega) (.int .i64 a3));have f:=(gF (gF (gF (gF h2 ⟨w.heap.size+1+1,5,none⟩ (by show w.heap.size+1+1≠w.heap.size+1;omega) (.int .i64 a0)) ⟨w.heap.size+1+1,6,none⟩ (by show w.heap.size+1+1≠w.heap.size+1;omega) (.int .i64 a1)) ⟨w.heap.size+1+1,7,none⟩ (by show w.heap.size+1+1≠w.heap.size+1;omega) (.int .i64 a2)) ⟨w.heap.size+1+1,8,none⟩ (by show w.heap.size+1+1≠w.heap.size+1;omega) (.int .i64 a3));refine gI (fun d=>Y d w ⟨1,r9,i4,i5,cm,a0,a1,a2,a3,p0,p1,order,tg,gA,i6,i7,dx,dy,ax,ay,az⟩ a n c/\d.heap[w.heap.size+1]? =some (.cells zS 58 (0,0))/\Y d (w+1+1) ⟨1,0,0,0,0,a0,a1,a2,a3,0,0,0,tg,ik,0,0,0,0,0,0,0⟩ none 0 0/\Below w w d) ⟨F,f,e,ii (ii (ii (ii (hb) (by omega)) (by omega)) (by omega)) (by omega)⟩ ?_;clear hb h2 h3 f e h1 F C D f6 f7 f8 z0 z1 z2 z3 z4 z5 z6 z7 z8 z9 j l m p q r t u x z A B;rintro w2 ⟨h1,h2,h3,hb⟩;obtain⟨H,C,q2,q3,q4,q5,q6,q7,q8,q9,L,M,N,P,Q,R,S,T,W,X,a4,a5⟩:=h1.cells;go_wp2_with fail;clear H C q2 q3 q4 q5 q6 q7 q8 q9 L M N P Q R S T W X a4 a5;obtain⟨z0,z1,z2,z3,z4,z5,z6,z7,z8,z9,j,l,m,p,q,r,t,u,x,z,A,B⟩:=h3.cells;have f0:=Y.free h3 1;have f1:=Y.free h3 2;have f2:=Y.free h3 13;have f3:=Y.free h3 14;have f4:=Y.free h3 15;have D:=Y.free h3 21;have hz:=h3.lt;have hl:=h1.lt;refine jw (w+1+1) [0,1,2,3,4,5,6,7,8,9,10,11,12] 11 (by kernel_rfl) rfl (by kernel_rfl) (by kernel_rfl) (fun _ _ o _ _ h=>by cases o<;>exact h) ?_
 iterate 13
  refine jW (v:=?_) rfl (by rfl) ?_ ?_;rotate_left
  .intro y hy
   obtain⟨y0,y1,y2,y3,y4,y5,y6,y7,y8,y9,a6,a7,a8,a9,b0,b1,b2,b3,b4,b5,b6,b7⟩:=Y.cells (Y.go h1 (gJ (k:=1) hy) (by omega));go_simp;rfl
  try simp only[V]
 refine mB ?_;refine ia (i:=13) (fun K b=>?_);go_simp;refine b _ _ (iQ (ag _)) ?_;clear b K;refine ia (i:=14) (fun K b=>?_);go_simp;refine b _ _ (TH _ _) ?_;clear b K;refine ia (i:=15) (fun K b=>?_);go_simp;refine b _ _ (iQ (ag _)) ?_;clear b K;refine ia (i:=16) (fun K b=>?_);go_simp;refine b _ _ (TH _ _) ?_;clear b K;refine ia (i:=17) (fun K b=>?_);go_simp;refine b _ _ (iQ (ag _)) ?_;clear b K;refine ia (i:=18) (fun K b=>?_);go_simp;refine b _ _ (TH _ _) ?_;clear b K;refine ia (i:=19) (fun K b=>?_);go_simp;refine b _ _ (iQ (ag _)) ?_;clear b K;refine ia (i:=20) (fun K b=>?_);go_simp;refine b _ _ (TH _ _) ?_;clear b K;refine ia (i:=21) (fun K b=>?_);go_simp;refine b _ _ (iQ (ag _)) ?_;clear b K;refine ia (i:=22) (fun K b=>?_);go_simp;refine b _ _ (TH _ _) ?_;clear b K;refine ia (i:=23) (fun K b=>?_);go_simp;refine b _ _ (iQ (ag _)) ?_;clear b K;refine lH (by kernel_rfl) ?_;go_upto_region 16 with fail;have e:=VW (k:=21) (v:=.slice a n c) (VW (k:=15) (v:=.int .i64 i7) (VW (k:=14) (v:=.int .i64 i6) (VW (k:=13) (v:=.string gA) (VW (k:=2) (v:=.int .i64 i4) (VW (k:=1) (v:=.int .i64 r9) (h3))))));simp only[aZ,aW]at e;have f:=(gF (gF (gF (gF (gF (gF h2 ⟨w.heap.size+1+1,1,none⟩ (by show w.heap.size+1+1≠w.heap.size+1;omega) (.int .i64 r9)) ⟨w.heap.size+1+1,2,none⟩ (by show w.heap.size+1+1≠w.heap.size+1;omega) (.int .i64 i4)) ⟨w.heap.size+1+1,13,none⟩ (by show w.heap.size+1+1≠w.heap.size+1;omega) (.string gA)) ⟨w.heap.size+1+1,14,none⟩ (by show w.heap.size+1+1≠w.heap.size+1;omega) (.int .i64 i6)) ⟨w.heap.size+1+1,15,none⟩ (by show w.heap.size+1+1≠w.heap.size+1;omega) (.int .i64 i7)) ⟨w.heap.size+1+1,21,none⟩ (by show w.heap.size+1+1≠w.heap.size+1;omega) (.slice a n c));refine gI (fun d=>d.heap[w.heap.size+1]? =some (.cells zS 58 (0,0))/\Y d (w+1+1) ⟨1,r9,i4,0,0,a0,a1,a2,a3,0,0,0,tg,gA,i6,i7,0,0,0,0,0⟩ a n c/\Below w w d) ⟨pd f,Y.of_dr e,jA (ii (ii (ii (ii (ii (ii (hb) (by omega)) (by omega)) (by omega)) (by omega)) (by omega)) (by omega))⟩ ?_;clear hb h2 h3 f e h1;rintro w3 ⟨h2,h3,hb⟩
 go_wp2_with(first
  |(refine gO h3 rfl (.tmp 3) rfl rfl ?_)
  |(refine hE _ _ _ _ h2 rfl rfl (.tmp 2) (.tmp 86) rfl rfl rfl ?_;refine jJ (fun d=>Y d (w+1) ⟨1,r9,i4,0,0,a0,a1,a2,a3,0,0,0,tg,gA,i6,i7,0,0,0,0,0⟩ a n c/\Below w w d) ⟨Y.stored h2 rfl _ _ _ _,Below.put22 hb (by omega) _ _ _ _⟩ ?_;rintro w9 ⟨h4,E⟩))
 exact ar (lu rfl rfl h4) rfl ⟨by simp[rJ, *],E⟩
def Pe(s:gW)(a:Option Addr)(n c:Nat)(w:World)(hk:s.kind=1)(h0:s.order≠0)(C:kT s.gA=true):Calls prog 143 #[.agg (⟨s,a,n,c⟩:jt)] w (sj w (rJ s) a n c):=by
 obtain⟨kind,r9,i4,i5,cm,a0,a1,a2,a3,p0,p1,order,tg,gA,i6,i7,dx,dy,ax,ay,az⟩:=s;obtain rfl:kind=1:=hk;obtain⟨E1:HQ _,E2:HQ _,E3:HQ _⟩:=BB w (.cells #[.int .i64 1,r9,i4,i5,cm,a0,a1,a2,a3,p0,p1,order,tg,gA,i6,i7,dx,dy,ax,ay,az,Z a n c] 58) (.cells zS 58) (.cells zS 58);have Hb:=O (wU w (.cells #[.int .i64 1,r9,i4,i5,cm,a0,a1,a2,a3,p0,p1,order,tg,gA,i6,i7,dx,dy,ax,ay,az,Z a n c] 58) (.cells zS 58) (.cells zS 58));have h0:order≠0:=h0
 have L:(order !=0)=true:=by simpa using h0
 have qm:(!gA.toList==[77,73,82,82,79,82])=false:=by rw[show(gA.toList==[77,73,82,82,79,82])=true from C];rfl
 have H0:=O h0;have Hm:=O C;clear h0 C;go_enter func143,ntmps143
 go_upto_region 4 with(refine hE (g:=w.heap.size+2) ⟨1,0,0,0,0,0,0,0,0,0,0,0,tg,ik,0,0,0,0,0,0,0⟩ none 0 0 E3 rfl rfl (.tmp 3) (.tmp 8) rfl rfl rfl ?_;refine jJ (fun d=>Y d w ⟨1,r9,i4,i5,cm,a0,a1,a2,a3,p0,p1,order,tg,gA,i6,i7,dx,dy,ax,ay,az⟩ a n c/\d.heap[w.heap.size+1]? =some (.cells zS 58 (0,0))/\Y d (w+1+1) ⟨1,0,0,0,0,0,0,0,0,0,0,0,tg,ik,0,0,0,0,0,0,0⟩ none 0 0/\Below w w d) ⟨vS.other E1 (by omega) _ _ _ _,vS.other E2 (by omega) _ _ _ _,Y.stored E3 rfl _ _ _ _,Below.put22 Hb (by omega) _ _ _ _⟩ ?_;rintro w1 ⟨h1,h2,h3,hb⟩;have D:=Y.cells h1;obtain⟨z0,z1,z2,z3,z4,z5,z6,z7,z8,z9,j,l,m,p,q,r,t,u,x,z,A,B⟩:=h3.cells;have E:=Y.free h3 5;have f6:=Y.free h3 6;have f7:=Y.free h3 7;have f8:=Y.free h3 8)
 go_upto_region 5 with fail;have e:=VW (k:=8) (v:=.int .i64 a3) (VW (k:=7) (v:=.int .i64 a2) (VW (k:=6) (v:=.int .i64 a1) (VW (k:=5) (v:=.int .i64 a0) (h3))));simp only[aZ,aW]at e;have H:=(gF (gF (gF (gF h1 ⟨w.heap.size+1+1,5,none⟩ (by show w.heap.size+1+1≠w.heap.size;omega) (.int .i64 a0)) ⟨w.heap.size+1+1,6,none⟩ (by show w.heap.size+1+1≠w.heap.size;omega) (.int .i64 a1)) ⟨w.heap.size+1+1,7,none⟩ (by show w.heap.size+1+1≠w.heap.size;omega) (.int .i64 a2)) ⟨w.heap.size+1+1,8,none⟩ (by show w.heap.size+1+1≠w.heap.size;omega) (.int .i64 a3));have f:=(gF (gF (gF (gF h2 ⟨w.heap.size+1+1,5,none⟩ (by show w.heap.size+1+1≠w.heap.size+1;omega) (.int .i64 a0)) ⟨w.heap.size+1+1,6,none⟩ (by show w.heap.size+1+1≠w.heap.size+1;omega) (.int .i64 a1)) ⟨w.heap.size+1+1,7,none⟩ (by show w.heap.size+1+1≠w.heap.size+1;omega) (.int .i64 a2)) ⟨w.heap.size+1+1,8,none⟩ (by show w.heap.size+1+1≠w.heap.size+1;omega) (.int .i64 a3));refine gI (fun d=>Y d w ⟨1,r9,i4,i5,cm,a0,a1,a2,a3,p0,p1,order,tg,gA,i6,i7,dx,dy,ax,ay,az⟩ a n c/\d.heap[w.heap.size+1]? =some (.cells zS 58 (0,0))/\Y d (w+1+1) ⟨1,0,0,0,0,a0,a1,a2,a3,0,0,0,tg,ik,0,0,0,0,0,0,0⟩ none 0 0/\Below w w d) ⟨H,f,e,ii (ii (ii (ii (hb) (by omega)) (by omega)) (by omega)) (by omega)⟩ ?_;clear hb h2 h3 f e h1 H D E f6 f7 f8 z0 z1 z2 z3 z4 z5 z6 z7 z8 z9 j l m p q r t u x z A B;rintro w2 ⟨h1,h2,h3,hb⟩;obtain⟨L,D,q2,q3,q4,q5,q6,q7,q8,q9,M,N,P,Q,R,S,T,W,X,a4,a5,a6⟩:=h1.cells;go_wp2_with fail;clear L D q2 q3 q4 q5 q6 q7 q8 q9 M N P Q R S T W X a4 a5 a6;obtain⟨z0,z1,z2,z3,z4,z5,z6,z7,z8,z9,j,l,m,p,q,r,t,u,x,z,A,B⟩:=h3.cells;have f0:=Y.free h3 1;have f1:=Y.free h3 2;have f2:=Y.free h3 13;have f3:=Y.free h3 14;have f4:=Y.free h3 15;have E:=Y.free h3 21;have hz:=h3.lt;have hl:=h1.lt;refine jw (w+1+1) [0,1,2,3,4,5,6,7,8,9,10,11,12] 11 (by kernel_rfl) rfl (by kernel_rfl) (by kernel_rfl) (fun _ _ o _ _ h=>by cases o<;>exact h) ?_
 iterate 13
  refine jW (v:=?_) rfl (by rfl) ?_ ?_;rotate_left
  .intro y hy
   obtain⟨y0,y1,y2,y3,y4,y5,y6,y7,y8,y9,a7,a8,a9,b0,b1,b2,b3,b4,b5,b6,b7,b8⟩:=Y.cells (Y.go h1 (gJ (k:=1) hy) (by omega));go_simp;rfl
  try simp only[V]
 refine mB ?_;refine ia (i:=13) (fun K b=>?_);go_simp;refine b _ _ (iQ (ag _)) ?_;clear b K;refine ia (i:=14) (fun K b=>?_);go_simp;refine b _ _ (TH _ _) ?_;clear b K;refine ia (i:=15) (fun K b=>?_);go_simp;refine b _ _ (iQ (ag _)) ?_;clear b K;refine ia (i:=16) (fun K b=>?_);go_simp;refine b _ _ (TH _ _) ?_;clear b K;refine ia (i:=17) (fun K b=>?_);go_simp;refine b _ _ (iQ (ag _)) ?_;clear b K;refine ia (i:=18) (fun K b=>?_);go_simp;refine b _ _ (TH _ _) ?_;clear b K;refine ia (i:=19) (fun K b=>?_);go_simp;refine b _ _ (iQ (ag _)) ?_;clear b K;refine ia (i:=20) (fun K b=>?_);go_simp;refine b _ _ (TH _ _) ?_;clear b K;refine ia (i:=21) (fun K b=>?_);go_simp;refine b _ _ (iQ (ag _)) ?_;clear b K;refine ia (i:=22) (fun K b=>?_);go_simp;refine b _ _ (TH _ _) ?_;clear b K;refine ia (i:=23) (fun K b=>?_);go_simp;refine b _ _ (iQ (ag _)) ?_;clear b K;refine lH (by kernel_rfl) ?_;go_upto_region 16 with fail;have e:=VW (k:=21) (v:=.slice a n c) (VW (k:=15) (v:=.int .i64 i7) (VW (k:=14) (v:=.int .i64 i6) (VW (k:=13) (v:=.string gA) (VW (k:=2) (v:=.int .i64 i4) (VW (k:=1) (v:=.int .i64 r9) (h3))))));simp only[aZ,aW]at e;have f:=(gF (gF (gF (gF (gF (gF h2 ⟨w.heap.size+1+1,1,none⟩ (by show w.heap.size+1+1≠w.heap.size+1;omega) (.int .i64 r9)) ⟨w.heap.size+1+1,2,none⟩ (by show w.heap.size+1+1≠w.heap.size+1;omega) (.int .i64 i4)) ⟨w.heap.size+1+1,13,none⟩ (by show w.heap.size+1+1≠w.heap.size+1;omega) (.string gA)) ⟨w.heap.size+1+1,14,none⟩ (by show w.heap.size+1+1≠w.heap.size+1;omega) (.int .i64 i6)) ⟨w.heap.size+1+1,15,none⟩ (by show w.heap.size+1+1≠w.heap.size+1;omega) (.int .i64 i7)) ⟨w.heap.size+1+1,21,none⟩ (by show w.heap.size+1+1≠w.heap.size+1;omega) (.slice a n c));refine gI (fun d=>d.heap[w.heap.size+1]? =some (.cells zS 58 (0,0))/\Y d (w+1+1) ⟨1,r9,i4,0,0,a0,a1,a2,a3,0,0,0,tg,gA,i6,i7,0,0,0,0,0⟩ a n c/\Below w w d) ⟨pd f,Y.of_dr e,jA (ii (ii (ii (ii (ii (ii (hb) (by omega)) (by omega)) (by omega)) (by omega)) (by omega)) (by omega))⟩ ?_;clear hb h2 h3 f e h1;rintro w3 ⟨h2,h3,hb⟩
 go_wp2_with(first
  |(refine gO h3 rfl (.tmp 3) rfl rfl ?_)
  |(refine hE _ _ _ _ h2 rfl rfl (.tmp 2) (.tmp 86) rfl rfl rfl ?_;refine jJ (fun d=>Y d (w+1) ⟨1,r9,i4,0,0,a0,a1,a2,a3,0,0,0,tg,gA,i6,i7,0,0,0,0,0⟩ a n c/\Below w w d) ⟨Y.stored h2 rfl _ _ _ _,Below.put22 hb (by omega) _ _ _ _⟩ ?_;rintro w9 ⟨h4,F⟩))
 exact ar (lu rfl rfl h4) rfl ⟨by(have e0:=H0.out;have e1:kT gA=_:=Hm.out;simp[rJ,e0,e1]),F⟩
def XQ(s:gW)(a:Option Addr)(n c:Nat)(w:World)(hk:s.kind=1)(h0:s.order≠0)(D:kT s.gA=false):Calls prog 143 #[.agg (⟨s,a,n,c⟩:jt)] w (sj w (rJ s) a n c):=by
 obtain⟨kind,r9,i4,i5,cm,a0,a1,a2,a3,p0,p1,order,tg,gA,i6,i7,dx,dy,ax,ay,az⟩:=s;obtain rfl:kind=1:=hk;obtain⟨E1:HQ _,E2:HQ _,E3:HQ _⟩:=BB w (.cells #[.int .i64 1,r9,i4,i5,cm,a0,a1,a2,a3,p0,p1,order,tg,gA,i6,i7,dx,dy,ax,ay,az,Z a n c] 58) (.cells zS 58) (.cells zS 58);have Hb:=O (wU w (.cells #[.int .i64 1,r9,i4,i5,cm,a0,a1,a2,a3,p0,p1,order,tg,gA,i6,i7,dx,dy,ax,ay,az,Z a n c] 58) (.cells zS 58) (.cells zS 58));have h0:order≠0:=h0
 have q0:(order !=0)=true:=by simpa using h0
 have qm:(!gA.toList==[77,73,82,82,79,82])=true:=by rw[show(gA.toList==[77,73,82,82,79,82])=false from D];rfl
 have H0:=O h0;have Hm:=O D;clear h0 D;go_enter func143,ntmps143
 go_upto_region 4 with(refine hE (g:=w.heap.size+2) ⟨1,0,0,0,0,0,0,0,0,0,0,0,tg,ik,0,0,0,0,0,0,0⟩ none 0 0 E3 rfl rfl (.tmp 3) (.tmp 8) rfl rfl rfl ?_;refine jJ (fun d=>Y d w ⟨1,r9,i4,i5,cm,a0,a1,a2,a3,p0,p1,order,tg,gA,i6,i7,dx,dy,ax,ay,az⟩ a n c/\d.heap[w.heap.size+1]? =some (.cells zS 58 (0,0))/\Y d (w+1+1) ⟨1,0,0,0,0,0,0,0,0,0,0,0,tg,ik,0,0,0,0,0,0,0⟩ none 0 0/\Below w w d) ⟨vS.other E1 (by omega) _ _ _ _,vS.other E2 (by omega) _ _ _ _,Y.stored E3 rfl _ _ _ _,Below.put22 Hb (by omega) _ _ _ _⟩ ?_;rintro w1 ⟨h1,h2,h3,hb⟩;have F:=Y.cells h1;obtain⟨z0,H,L,M,N,P,Q,R,S,T,l,m,p,q,r,t,u,x,z,A,B,C⟩:=h3.cells;have W:=Y.free h3 5;have f6:=Y.free h3 6;have f7:=Y.free h3 7;have f8:=Y.free h3 8)
 go_upto_region 5 with fail;have e:=VW (k:=8) (v:=.int .i64 a3) (VW (k:=7) (v:=.int .i64 a2) (VW (k:=6) (v:=.int .i64 a1) (VW (k:=5) (v:=.int .i64 a0) (h3))));simp only[aZ,aW]at e;have j:=(gF (gF (gF (gF h1 ⟨w.heap.size+1+1,5,none⟩ (by show w.heap.size+1+1≠w.heap.size;omega) (.int .i64 a0)) ⟨w.heap.size+1+1,6,none⟩ (by show w.heap.size+1+1≠w.heap.size;omega) (.int .i64 a1)) ⟨w.heap.size+1+1,7,none⟩ (by show w.heap.size+1+1≠w.heap.size;omega) (.int .i64 a2)) ⟨w.heap.size+1+1,8,none⟩ (by show w.heap.size+1+1≠w.heap.size;omega) (.int .i64 a3));have f:=(gF (gF (gF (gF h2 ⟨w.heap.size+1+1,5,none⟩ (by show w.heap.size+1+1≠w.heap.size+1;omega) (.int .i64 a0)) ⟨w.heap.size+1+1,6,none⟩ (by show w.heap.size+1+1≠w.heap.size+1;omega) (.int .i64 a1)) ⟨w.heap.size+1+1,7,none⟩ (by show w.heap.size+1+1≠w.heap.size+1;omega) (.int .i64 a2)) ⟨w.heap.size+1+1,8,none⟩ (by show w.heap.size+1+1≠w.heap.size+1;omega) (.int .i64 a3));refine gI (fun d=>Y d w ⟨1,r9,i4,i5,cm,a0,a1,a2,a3,p0,p1,order,tg,gA,i6,i7,dx,dy,ax,ay,az⟩ a n c/\d.heap[w.heap.size+1]? =some (.cells zS 58 (0,0))/\Y d (w+1+1) ⟨1,0,0,0,0,a0,a1,a2,a3,0,0,0,tg,ik,0,0,0,0,0,0,0⟩ none 0 0/\Below w w d) ⟨j,f,e,ii (ii (ii (ii (hb) (by omega)) (by omega)) (by omega)) (by omega)⟩ ?_;clear hb h2 h3 f e h1 j F W f6 f7 f8 z0 H L M N P Q R S T l m p q r t u x z A B C;rintro w2 ⟨h1,h2,h3,hb⟩;obtain⟨q0,F,q2,q3,q4,q5,q6,q7,q8,q9,a4,a5,a6,a7,a8,a9,b0,b1,b2,b3,b4,b5⟩:=h1.cells;go_wp2_with fail;clear q0 F q2 q3 q4 q5 q6 q7 q8 q9 a4 a5 a6 a7 a8 a9 b0 b1 b2 b3 b4 b5;obtain⟨z0,H,L,M,N,P,Q,R,S,T,l,m,p,q,r,t,u,x,z,A,B,C⟩:=h3.cells;have f0:=Y.free h3 11;have f1:=Y.free h3 9;have f2:=Y.free h3 10;have hz:=h3.lt;have hl:=h1.lt;refine jw (w+1+1) [0,1,2,3,4] 3 (by kernel_rfl) rfl (by kernel_rfl) (by kernel_rfl) (fun _ _ o _ _ h=>by cases o<;>exact h) ?_
 iterate 5
  refine jW (v:=?_) rfl (by rfl) ?_ ?_;rotate_left
  .intro y E
   obtain⟨y0,y1,y2,y3,y4,y5,y6,y7,y8,y9,b6,b7,b8,b9,c0,c1,c2,c3,c4,c5,c6,c7⟩:=Y.cells (Y.go h1 (gJ (k:=1) E) (by omega));go_simp;rfl
  try simp only[V]
 refine mB ?_;refine ia (i:=5) (fun K b=>?_);go_simp;refine b _ _ (iQ (ag _)) ?_;clear b K;refine ia (i:=6) (fun K b=>?_);go_simp;refine b _ _ (TH _ _) ?_;clear b K;refine ia (i:=7) (fun K b=>?_);go_simp;refine b _ _ (MH (ag _)) ?_;clear b K;refine lH (by kernel_rfl) ?_;go_upto_region 15 with fail;have e:=VW (k:=10) (v:=.int .i64 p1) (VW (k:=9) (v:=.int .i64 p0) (VW (k:=11) (v:=.int .i64 order) (h3)));simp only[aZ,aW]at e;have j:=(gF (gF (gF h1 ⟨w.heap.size+1+1,11,none⟩ (by show w.heap.size+1+1≠w.heap.size;omega) (.int .i64 order)) ⟨w.heap.size+1+1,9,none⟩ (by show w.heap.size+1+1≠w.heap.size;omega) (.int .i64 p0)) ⟨w.heap.size+1+1,10,none⟩ (by show w.heap.size+1+1≠w.heap.size;omega) (.int .i64 p1));have f:=(gF (gF (gF h2 ⟨w.heap.size+1+1,11,none⟩ (by show w.heap.size+1+1≠w.heap.size+1;omega) (.int .i64 order)) ⟨w.heap.size+1+1,9,none⟩ (by show w.heap.size+1+1≠w.heap.size+1;omega) (.int .i64 p0)) ⟨w.heap.size+1+1,10,none⟩ (by show w.heap.size+1+1≠w.heap.size+1;omega) (.int .i64 p1));refine gI (fun d=>Y d w ⟨1,r9,i4,i5,cm,a0,a1,a2,a3,p0,p1,order,tg,gA,i6,i7,dx,dy,ax,ay,az⟩ a n c/\d.heap[w.heap.size+1]? =some (.cells zS 58 (0,0))/\Y d (w+1+1) ⟨1,0,0,0,0,a0,a1,a2,a3,p0,p1,order,tg,ik,0,0,0,0,0,0,0⟩ none 0 0/\Below w w d) ⟨pd j,pd f,Y.of_dr e,jA (ii (ii (ii (hb) (by omega)) (by omega)) (by omega))⟩ ?_;clear hb h2 h3 f e h1 j;rintro w4 ⟨h1,h2,h3,hb⟩;obtain⟨z0,H,L,M,N,P,Q,R,S,T,l,m,p,q,r,t,u,x,z,A,B,C⟩:=h3.cells;have f0:=Y.free h3 1;have f1:=Y.free h3 2;have f2:=Y.free h3 13;have f3:=Y.free h3 14;have f4:=Y.free h3 15;have W:=Y.free h3 21;have hz:=h3.lt;have hl:=h1.lt;refine jw (w+1+1) [0,1,2,3,4,5,6,7,8,9,10,11,12] 11 (by kernel_rfl) rfl (by kernel_rfl) (by kernel_rfl) (fun _ _ o _ _ h=>by cases o<;>exact h) ?_
 iterate 13
  refine jW (v:=?_) rfl (by rfl) ?_ ?_;rotate_left
  .intro y E
   obtain⟨y0,y1,y2,y3,y4,y5,y6,y7,y8,y9,b6,b7,b8,b9,c0,c1,c2,c3,c4,c5,c6,c7⟩:=Y.cells (Y.go h1 (gJ (k:=1) E) (by omega));go_simp;rfl
  try simp only[V]
 refine mB ?_;refine ia (i:=13) (fun K b=>?_);go_simp;refine b _ _ (iQ (ag _)) ?_;clear b K;refine ia (i:=14) (fun K b=>?_);go_simp;refine b _ _ (TH _ _) ?_;clear b K;refine ia (i:=15) (fun K b=>?_);go_simp;refine b _ _ (iQ (ag _)) ?_;clear b K;refine ia (i:=16) (fun K b=>?_);go_simp;refine b _ _ (TH _ _) ?_;clear b K;refine ia (i:=17) (fun K b=>?_);go_simp;refine b _ _ (iQ (ag _)) ?_;clear b K;refine ia (i:=18) (fun K b=>?_);go_simp;refine b _ _ (TH _ _) ?_;clear b K;refine ia (i:=19) (fun K b=>?_);go_simp;refine b _ _ (iQ (ag _)) ?_;clear b K;refine ia (i:=20) (fun K b=>?_);go_simp;refine b _ _ (TH _ _) ?_;clear b K;refine ia (i:=21) (fun K b=>?_);go_simp;refine b _ _ (iQ (ag _)) ?_;clear b K;refine ia (i:=22) (fun K b=>?_);go_simp;refine b _ _ (TH _ _) ?_;clear b K;refine ia (i:=23) (fun K b=>?_);go_simp;refine b _ _ (iQ (ag _)) ?_;clear b K;refine lH (by kernel_rfl) ?_;go_upto_region 16 with fail;have e:=VW (k:=21) (v:=.slice a n c) (VW (k:=15) (v:=.int .i64 i7) (VW (k:=14) (v:=.int .i64 i6) (VW (k:=13) (v:=.string gA) (VW (k:=2) (v:=.int .i64 i4) (VW (k:=1) (v:=.int .i64 r9) (h3))))));simp only[aZ,aW]at e;have f:=(gF (gF (gF (gF (gF (gF h2 ⟨w.heap.size+1+1,1,none⟩ (by show w.heap.size+1+1≠w.heap.size+1;omega) (.int .i64 r9)) ⟨w.heap.size+1+1,2,none⟩ (by show w.heap.size+1+1≠w.heap.size+1;omega) (.int .i64 i4)) ⟨w.heap.size+1+1,13,none⟩ (by show w.heap.size+1+1≠w.heap.size+1;omega) (.string gA)) ⟨w.heap.size+1+1,14,none⟩ (by show w.heap.size+1+1≠w.heap.size+1;omega) (.int .i64 i6)) ⟨w.heap.size+1+1,15,none⟩ (by show w.heap.size+1+1≠w.heap.size+1;omega) (.int .i64 i7)) ⟨w.heap.size+1+1,21,none⟩ (by show w.heap.size+1+1≠w.heap.size+1;omega) (.slice a n c));refine gI (fun d=>d.heap[w.heap.size+1]? =some (.cells zS 58 (0,0))/\Y d (w+1+1) ⟨1,r9,i4,0,0,a0,a1,a2,a3,p0,p1,order,tg,gA,i6,i7,0,0,0,0,0⟩ a n c/\Below w w d) ⟨pd f,Y.of_dr e,jA (ii (ii (ii (ii (ii (ii (hb) (by omega)) (by omega)) (by omega)) (by omega)) (by omega)) (by omega))⟩ ?_;clear hb h2 h3 f e h1;rintro w3 ⟨h2,h3,hb⟩
 go_wp2_with(first
  |(refine gO h3 rfl (.tmp 3) rfl rfl ?_)
  |(refine hE _ _ _ _ h2 rfl rfl (.tmp 2) (.tmp 86) rfl rfl rfl ?_;refine jJ (fun d=>Y d (w+1) ⟨1,r9,i4,0,0,a0,a1,a2,a3,p0,p1,order,tg,gA,i6,i7,0,0,0,0,0⟩ a n c/\Below w w d) ⟨Y.stored h2 rfl _ _ _ _,Below.put22 hb (by omega) _ _ _ _⟩ ?_;rintro w9 ⟨h4,X⟩))
 exact ar (lu rfl rfl h4) rfl ⟨by(have e0:=H0.out;have e1:kT gA=_:=Hm.out;simp[rJ,e0,e1]),X⟩
def Pg(w:World)(s:gW)(a:Option Addr)(n c:Nat)(e:Ending)(w':World):Prop:=
 ∃a' n' c',sj w (rJ s) a' n' c' e w'/\((s.kind<=2/\a'=a/\n'=n/\c'=c)\/(2<s.kind/\a'=none/\n'=0/\c'=0))
def MI(s:gW)(a:Option Addr)(n c:Nat)(w:World)(h1:1<=s.kind)(h2:s.kind<=4):Calls prog 143 #[.agg (⟨s,a,n,c⟩:jt)] w (Pg w s a n c):=by
 have:s.kind=1\/s.kind=2\/s.kind=3\/s.kind=4:=by omega
 obtain h|h|h|h:=this
 .by_cases h0:s.order=0
  .exact(Pd s a n c w h h0).mono fun e w' b=>⟨a,n,c,b,VR ⟨by omega,rfl,rfl,rfl⟩⟩
  .cases hm:kT s.gA with
   |true=>exact(Pe s a n c w h h0 hm).mono fun e w' b=>⟨a,n,c,b,VR ⟨by omega,rfl,rfl,rfl⟩⟩
   |false=>exact(XQ s a n c w h h0 hm).mono fun e w' b=>⟨a,n,c,b,VR ⟨by omega,rfl,rfl,rfl⟩⟩
 .exact(QH s a n c w h).mono fun e w' b=>⟨a,n,c,b,VR ⟨by omega,rfl,rfl,rfl⟩⟩
 .exact(QI s a n c w h).mono fun e w' b=>⟨none,0,0,b,VS ⟨by omega,rfl,rfl,rfl⟩⟩
 .exact(QJ s a n c w h).mono fun e w' b=>⟨none,0,0,b,VS ⟨by omega,rfl,rfl,rfl⟩⟩
def ru{b:Nat}{T:TypeId}:∀(e a d c:List Value)(w:World),d.length=e.length->w.heap[b]? =some (.cells (a++d++c).toArray T (0,0))->(w.setCells b a.length e).heap[b]? =some (.cells (a++e++c).toArray T (0,0))
 |[],a,d,c,w,hl,h=>by
  obtain rfl:d=[]:=aX.1 hl;exact h
 |v::e,a,d,c,w,hl,h=>by
  match d,hl with
  |o::d,hl=>
   have h1:=gG h a.length v;rw[bK,aC,fO,aj (by omega),eC]at h1;simp only[bF,aZ]at h1;have h2:=ru (T:=T) e (a++[v]) d c (w.setCell ⟨b,a.length,none⟩ v) (by simpa using hl) (by rw[h1];simp);simp only[al,gv]at h2
   show((w.setCell ⟨b,a.length,none⟩ v).setCells b (a.length+1) e).heap[b]? =_
   rw[h2];simp
def tE{b:Nat}{T:TypeId}{a:List Value}{cs:Array Value}{w:World}(h:w.heap[b]? =some (.cells cs T (0,0)))(c:cs.size=a.length):(w.setCells b 0 a).heap[b]? =some (.cells a.toArray T (0,0)):=by
 have:=ru a [] cs.toList [] w (by simpa using c) (by simpa using h);simpa using this
def ig{B b:Nat}(hb:B<=b):∀(a:List Value)(o:Nat){w w':World},Below B w w'->Below B w (w'.setCells b o a)
 |[],_,_,_,h=>h
 |v::a,o,_,_,h=>ig hb a (o+1) (h.setCell (p:=⟨b,o,none⟩) hb v)
def uu(s:gW):List Value:=[.int .i64 s.kind,.int .i64 s.r9,.int .i64 s.i4,.int .i64 s.i5,.int .i64 s.cm,.int .i64 s.order,.int .i64 s.tg,.int .i64 s.i6,.int .i64 s.i7,.int .i64 s.dx,.int .i64 s.dy,.int .i64 s.ax,.int .i64 s.ay,.int .i64 s.az,.int .i64 0,.int .i64 0,
 .int .i64 s.a0,.int .i64 s.a1,.int .i64 s.a2,.int .i64 s.a3,.int .i64 s.p0,.int .i64 s.p1,.string s.gA]
def Tryz.infoFields:(prog.info? 266).map (·.size)=some 23:=by kernel_rfl
def Wf(w:World)(o:Obj):(w.alloc o).heap.size=w.heap.size+1:=by simp
def tF{w:World}{g n:Nat}{cs:Array Value}{T:TypeId}(h:w.heap[g]? =some (.cells cs T (0,0)))(b:cs.size=n):w.there g 0 n:=fun j a=>by
 subst b;simp[World.cell?,World.frozen?,h,a]
def NZ(s:gW)(a:Option Addr)(n c:Nat)(w:World):Calls prog 191 #[.agg (⟨s,a,n,c⟩:jt)] w (iZ w (.agg (uu s).toArray)):=by
 have d:=O (Y.new w s a n c);go_enter func191,ntmps191;go_upto_region 1 with fail;have h2:=TL (w.alloc (.cells (⟨s,a,n,c⟩:jt) 58)) (.cells #[oZ,oZ,oZ,oZ,oZ,oZ,oZ,oZ,oZ,oZ,oZ,oZ,oZ,oZ,oZ,oZ,oZ,oZ,oZ,oZ,oZ,oZ,ik] 266);rw[Wf]at h2;refine gI (fun b=>Y b w s a n c/\b.heap[w.heap.size+1]? =some (.cells #[oZ,oZ,oZ,oZ,oZ,oZ,oZ,oZ,oZ,oZ,oZ,oZ,oZ,oZ,oZ,oZ,oZ,oZ,oZ,oZ,oZ,oZ,ik] 266 (0,0))/\Below w w b) ⟨Y.go d ((TH _ _).alloc (ag _) _) (by simp),h2,gY (gY (TH _ _))⟩ ?_;clear h2 d;rintro B ⟨h1,h2,hb⟩;obtain⟨k0,k1,r,t,u,v,x,y,z,A,e,f,g,h,i,j,k,l,m,o,p,q⟩:=h1.cells
 go_wp2_with(refine wpList_store_mid rfl 266 (.tmp 2) (.tmp 38) rfl (w+1) 0 (uu s).toArray rfl rfl (tF h2 rfl) Tryz.infoFields (by simp[uu,Value.oneCell']) ?_;refine jJ (fun b=>b.heap[w.heap.size+1]? =some (.cells (uu s).toArray 266 (0,0))/\Below w w b) ⟨tE h2 rfl,ig (by omega) _ _ hb⟩ ?_;clear h1 h2 hb;rintro C ⟨h2,hb⟩)
 exact ar (results_cell_row rfl _ _ _ 266 _ (0,0) _ rfl h2 underlying266 rfl Tryz.infoFields) rfl ⟨rfl,hb⟩
def gN(S:Nat->Prop)(w w':World):Prop:=∀b,S b->w'.heap[b]? =w.heap[b]?
def gN.refl(S:Nat->Prop)(w:World):gN S w w:=fun _ _=>rfl
def gN.trans{S:Nat->Prop}{w a c:World}(h1:gN S w a)(h2:gN S a c):gN S w c:=fun b hb=>(h2 b hb).trans (h1 b hb)
def gN.cell{S:Nat->Prop}{w w':World}(h:gN S w w'){p:Addr}(a:S p.block):w'.cell? p=w.cell? p:=by simp[World.cell?,h _ a]
def gN.mono{S T:Nat->Prop}{w w':World}(h:gN S w w')(a:∀b,T b->S b):gN T w w':=fun b hb=>h b (a b hb)
def gE{B:Nat}{w w':World}(h:Below B w w'):gN (fun b=>b<B) w w':=fun b hb=>h.block b hb
def nW{w w':World}{row:Option Nat}(a:w.grownBy w' row):gN (fun b=>b<w.heap.size/\row≠some b) w w':=fun b hb=>a.block b hb.1 (fun e=>hb.2 e.symm)
def gK(g:Nat):∀(a:List Value)(o:Nat)(w:World),gN (fun b=>b≠g) w (w.setCells g o a)
 |[],_,_=>gN.refl _ _
 |v::a,o,w=>fun b hb=>(gK g a (o+1) (w.setCell ⟨g,o,none⟩ v) b hb).trans (TI _ _ _ _ (fun e=>hb e))
def IRp(S:Nat->Prop)(w:World)(k:Nat)(a:Option Addr)(n c:Nat)(zs:List Int):Prop:=
 zs.length=n*k/\n<=c/\(0<n-> ∃b off,a=some ⟨b,off,none⟩/\S b/\ ∀j,j<n*k->w.cell? ⟨b,off+j,none⟩=some (.int .i64 (zs.getD j 0)))
def IRp.kept{S T:Nat->Prop}{w w':World}{k:Nat}{a:Option Addr}{n c:Nat}{zs:List Int}(h:IRp S w k a n c zs)(f:gN S w w')(i:∀b,S b->T b):IRp T w' k a n c zs:=
 ⟨h.1,h.2.1,fun g=>let⟨b,off,e,hb,hc⟩:=h.2.2 g;⟨b,off,e,i b hb,fun j d=>(f.cell (p:=⟨b,off+j,none⟩) hb).trans (hc j d)⟩⟩
def IRp.ir{S:Nat->Prop}{N:Nat}{w:World}{k:Nat}{a:Option Addr}{n c:Nat}{zs:List Int}(h:IRp S w k a n c zs)(f:∀b,S b->b<N):IR N w k a n c zs:=
 ⟨h.1,h.2.1,fun d=>let⟨b,off,e,hb,hc⟩:=h.2.2 d;⟨b,off,e,f b hb,hc⟩⟩
def IR.irp{S:Nat->Prop}{N:Nat}{w:World}{k:Nat}{a:Option Addr}{n c:Nat}{zs:List Int}(h:IR N w k a n c zs)(f:∀b,b<N->S b):IRp S w k a n c zs:=
 ⟨h.1,h.2.1,fun d=>let⟨b,off,e,hb,hc⟩:=h.2.2 d;⟨b,off,e,f b hb,hc⟩⟩
def IRp.nil(S:Nat->Prop)(w:World)(k:Nat)(a:Option Addr)(c:Nat):IRp S w k a 0 c []:=⟨by simp,aA _,fun h=>absurd h (by omega)⟩
abbrev pB(α:Type):=(Nat->Prop)->World->α->List Value->Prop
structure kR {α:Type} (k:Nat) (R:pB α):Prop where
 len:∀{S w x cs},R S w x cs->cs.length=k
 kept:∀{S T w w' x cs},R S w x cs->gN S w w'->(∀b,S b->T b)->R T w' x cs
 one:∀{S w x cs},R S w x cs-> ∀v∈cs,v.oneCell'=true
def RR{α:Type}(R:pB α)(k:Nat)(S:Nat->Prop)(w:World)(a:Option Addr)(n c:Nat)(l:List α):Prop:=
 l.length=n/\n<=c/\(0<n-> ∃b off,a=some ⟨b,off,none⟩/\S b/\ ∀i x,l[i]? =some x-> ∃cs,R S w x cs/\w.rangeAt b (off+i*k) cs)
def jb{S:Nat->Prop}{w w':World}{b o:Nat}{cs:List Value}(h:w.rangeAt b o cs)(a:gN S w w')(hb:S b):w'.rangeAt b o cs:=fun j v c=>(a.cell (p:=⟨b,o+j,none⟩) hb).trans (h j v c)
def RR.kept{α:Type}{R:pB α}{k:Nat}(ok:kR k R){S T:Nat->Prop}{w w':World}{a:Option Addr}{n c:Nat}{l:List α}(h:RR R k S w a n c l)(d:gN S w w')(f:∀b,S b->T b):RR R k T w' a n c l:=
 ⟨h.1,h.2.1,fun g=>let⟨b,off,e,hb,hc⟩:=h.2.2 g;⟨b,off,e,f b hb,fun i x j=>let⟨cs,h1,h2⟩:=hc i x j;⟨cs,ok.kept h1 d f,jb h2 d hb⟩⟩⟩
def RR.go{α:Type}{R:pB α}{k:Nat}(ok:kR k R){w w':World}{a:Option Addr}{n c:Nat}{l:List α}(h:RR R k (fun b=>b<w.heap.size) w a n c l)(hb:Below w w w'):RR R k (fun b=>b<w'.heap.size) w' a n c l:=
 h.kept ok (gE hb) (fun b h=>eb h hb.size)
def RR.nil{α:Type}(R:pB α)(k:Nat)(S:Nat->Prop)(w:World)(a:Option Addr)(c:Nat):RR R k S w a 0 c []:=⟨rfl,aA _,fun h=>absurd h (by omega)⟩
def RR.at{α:Type}{R:pB α}{k:Nat}{S:Nat->Prop}{w:World}{a:Option Addr}{n c:Nat}{l:List α}(h:RR R k S w a n c l){i:Nat}(hi:i<n):
 ∃b off x cs,a=some ⟨b,off,none⟩/\S b/\l[i]? =some x/\R S w x cs/\w.rangeAt b (off+i*k) cs:=by
 obtain⟨b,off,e,hb,f⟩:=h.2.2 (by omega)
 have d:i<l.length:=by rw[h.1];exact hi
 obtain⟨cs,h1,h2⟩:=f i l[i] (ae d);exact⟨b,off,l[i],cs,e,hb,ae d,h1,h2⟩
def RR.take{α:Type}{R:pB α}{k:Nat}{S:Nat->Prop}{w:World}{a:Option Addr}{n c:Nat}{l:List α}(h:RR R k S w a n c l){i:Nat}(hi:i<=n):RR R k S w a i c (l.take i):=by
 refine⟨by rw[bn,h.1];omega,af hi h.2.1,fun h0=>?_⟩;obtain⟨b,off,e,hb,f⟩:=h.2.2 (by omega);refine⟨b,off,e,hb,fun j x d=>?_⟩;rw[cZ]at d;split at d
 .exact f j x d
 .cases d
def mC{k:Nat}:∀(css:List (List Value))(i:Nat)(cs:List Value)(j:Nat),(∀c∈css,c.length=k)->css[i]? =some cs->j<k->css.flatten[i*k+j]? =cs[j]?
 |[],i,cs,j,_,h,_=>by simp at h
 |c::css,0,cs,j,hl,h,hj=>by
  have e:c=cs:=by simpa using h
  subst e;have:=hl c (by simp);rw[ce,aF (by omega)];simp
 |c::css,i+1,cs,j,hl,h,hj=>by
  have a:=hl c (by simp);rw[ce,aY (by rw[a,df];omega),a];rw[show(i+1)*k+j-k=i*k+j by rw[df];omega];exact mC css i cs j (fun c a=>hl c (by simp[a])) (by simpa using h) hj
def lK{k:Nat}:∀(css:List (List Value)),(∀c∈css,c.length=k)->css.flatten.length=css.length*k
 |[],_=>by simp
 |c::css,hl=>by
  rw[ce,al,lK css (fun c a=>hl c (by simp[a])),hl c (by simp),aH,df];omega
def tG{k:Nat}:∀(css:List (List Value))(i:Nat)(cs:List Value),(∀c∈css,c.length=k)->i<css.length->cs.length=k->(css.set i cs).flatten=css.flatten.take (i*k)++cs++css.flatten.drop (i*k+k)
 |[],i,cs,_,h,_=>by simp at h
 |c::css,0,cs,hl,h,b=>by
  have:=hl c (by simp);simp[List.drop_append,this]
 |c::css,i+1,cs,hl,h,b=>by
  have a:=hl c (by simp);have f:=tG css i cs (fun c b=>hl c (by simp[b])) (by simpa using h) b;rw[aW,ce,f,ce];have d:c.take ((i+1)*k)=c:=aM (by rw[a,df];omega);have e:c.drop ((i+1)*k+k)=[]:=gp (by rw[a,df];omega);rw[fH,List.drop_append,d,e,a];rw[show(i+1)*k-k=i*k by rw[df];omega,show(i+1)*k+k-k=i*k+k by rw[df];omega];simp
def jD{α:Type}(R:pB α)(k:Nat)(T:TypeId)(base:Nat)(w:World)(v:Value)(l:List α):Prop:=
 ∃css:List (List Value),css.length=l.length/\(∀c∈css,c.length=k)/\w.ownsRow base T k v l.length css.flatten/\ ∀(i:Nat)(x:α)(cs:List Value),l[i]? =some x->css[i]? =some cs->R (fun b=>base<=b/\b<w.heap.size/\v.ownBlock≠some b) w x cs
def jD.nil{α:Type}(R:pB α)(k:Nat)(T:TypeId)(base:Nat)(w:World):jD R k T base w (.slice none 0 0) []:=
 ⟨[],rfl,by simp,World.ownsRow_nil _ _ _ _,fun i x cs h=>by simp at h⟩
def kD{w w':World}{base:Nat}{e:TypeId}{size n:Nat}{v:Value}{xs:List Value}(h:w.ownsRow base e size v n xs)(hb:Below w w w'):w'.ownsRow base e size v n xs:=by
 obtain⟨l,r⟩:=h;refine⟨l,r.imp id ?_⟩;rintro⟨g,cap,a,e,c,b,d⟩;exact⟨g,cap,a,e,c,(hb.block g (TK b)).trans b,d⟩
def jD.go{α:Type}{R:pB α}{k:Nat}(ok:kR k R){T:TypeId}{base:Nat}{w w':World}{v:Value}{l:List α}(h:jD R k T base w v l)(hb:Below w w w'):jD R k T base w' v l:=by
 obtain⟨css,h1,h2,h3,a⟩:=h;refine⟨css,h1,h2,kD h3 hb,fun i x cs d c=>ok.kept (a i x cs d c) ?_ ?_⟩
 .exact(gE hb).mono (fun b h=>h.2.1)
 .exact fun b h=>⟨h.1,eb h.2.1 hb.size,h.2.2⟩
def jD.keep{α:Type}{R:pB α}{k:Nat}(ok:kR k R){T:TypeId}{base:Nat}{w w':World}{v:Value}{l:List α}(h:jD R k T base w v l)(c:gN (fun b=>base<=b/\b<w.heap.size) w w')(n:w.heap.size<=w'.heap.size):jD R k T base w' v l:=by
 obtain⟨css,h1,h2,h3,j⟩:=h;refine⟨css,h1,h2,?_,fun i x cs o m=>ok.kept (j i x cs o m) (c.mono (fun b h=>⟨h.1,h.2.1⟩)) (fun b h=>⟨h.1,eb h.2.1 n,h.2.2⟩)⟩;obtain⟨l,r⟩:=h3;refine⟨l,r.imp id ?_⟩;rintro⟨g,cap,a,e,d,f,p⟩;exact⟨g,cap,a,e,d,(c g ⟨d,TK f⟩).trans f,p⟩
def jD.form{α:Type}{R:pB α}{k:Nat}{T:TypeId}{base:Nat}{w:World}{v:Value}{l:List α}(h:jD R k T base w v l):
 (v=.slice none 0 0/\l=[])\/ ∃g cap,v=.slice (J g) l.length cap/\base<=g/\g<w.heap.size/\l.length<=cap/\cap<=maxLen/\v.ownBlock=some g:=by
 obtain⟨css,h1,h2,h3,i⟩:=h
 obtain ⟨e,h0⟩|⟨g,cap,f,e,a,b,c,d,j,m⟩:=h3.2
 .exact VR ⟨e,aX.1 h0⟩
 .exact VS ⟨g,cap,e,a,TK b,c,d,by rw[e];rfl⟩
def jD.fresh{α:Type}{R:pB α}{k:Nat}{T:TypeId}{base:Nat}{w:World}{v:Value}{l:List α}(h:jD R k T base w v l){b:Nat}(hb:w.heap.size<=b):v.ownBlock≠some b:=by
 intro e
 obtain ⟨rfl,_⟩|⟨g,cap,_,_,c,_,_,a⟩:=h.form
 .cases e
 .rw[a]at e;cases e;omega
def jD.rr{α:Type}{R:pB α}{k:Nat}(ok:kR k R){T:TypeId}{base:Nat}{w:World}{a:Option Addr}{n c:Nat}{l:List α}(h:jD R k T base w (.slice a n c) l):RR R k (fun b=>b<w.heap.size) w a n c l:=by
 obtain⟨css,h1,h2,h3,p⟩:=h
 obtain ⟨e,h0⟩|⟨g,cap,t,e,y,r,s,z,A,B⟩:=h3.2
 .cases e
  obtain rfl:=aX.1 h0;exact RR.nil _ _ _ _ _ _
 .cases e
  refine⟨rfl,s,fun u=>⟨g,0,rfl,TK r,fun i x o=>?_⟩⟩;have hi:i<l.length:=(TG.1 o).1;have d:css[i]? =some css[i]:=ae (by omega);refine⟨css[i],ok.kept (p i x _ o d) (gN.refl _ _) (fun b h=>h.2.1),fun j v m=>?_⟩
  have q:j<k:=by
   have:=(TG.1 m).1;rw[h2 css[i] (cW _)]at this;exact this
  have f:=h3.cells (g:=g) rfl (i*k+j) v (by rw[mC css i _ j h2 d q];exact m);rw[Addr.add_mid,<- cN]at f;exact f
def jD.at{α:Type}{R:pB α}{k:Nat}(ok:kR k R){T:TypeId}{base:Nat}{w:World}{g n c:Nat}{l:List α}(h:jD R k T base w (.slice (J g) n c) l){i:Nat}(hi:i<l.length):
 ∃cs,R (fun b=>b<w.heap.size) w l[i] cs/\w.rangeAt g (i*k) cs:=by
 have a:=h.rr ok;obtain⟨b,off,x,cs,e,hb,d,h1,h2⟩:=a.at (i:=i) (by rw[<- a.1];exact hi);cases e;rw[ae hi]at d;cases d;exact⟨cs,h1,by simpa using h2⟩
def A0{w:World}{base:Nat}{e:TypeId}{size n g c:Nat}{xs:List Value}(h:w.ownsRow base e size (.slice (J g) n c) n xs){o m:Nat}(l:o+m<=n*size):w.there g o m:=by
 obtain ⟨e,_⟩|⟨i,cap,a,e,p,b,d,q,f,r⟩:=h.2
 .cases e
 .cases e
  intro j k
  have:o+j<a.size:=by rw[f];have:=Ui size d;omega
  simp[World.cell?,World.frozen?,b,this]
def jD.there{α:Type}{R:pB α}{k:Nat}{T:TypeId}{base:Nat}{w:World}{g n c:Nat}{l:List α}(h:jD R k T base w (.slice (J g) n c) l){i:Nat}(hi:i<l.length):w.there g (i*k) k:=by
 obtain⟨css,h1,h2,h3,f⟩:=h
 have a:n=l.length:=by
  obtain ⟨e,_⟩|⟨d,cap,b,e,_⟩:=h3.2
  .cases e
  .cases e;rfl
 subst a;refine A0 h3 ?_;have:=Ui k (show i+1<=l.length from hi);rw[df]at this;omega
def tH{b:Nat}{T:TypeId}{w:World}{a:Array Value}(h:w.heap[b]? =some (.cells a T (0,0)))(o:Nat)(c:List Value)(d:o+c.length<=a.size):
 (w.setCells b o c).heap[b]? =some (.cells (a.toList.take o++c++a.toList.drop (o+c.length)).toArray T (0,0)):=by
 have e:a.toList=a.toList.take o++(a.toList.drop o).take c.length++a.toList.drop (o+c.length):=by
  rw[aC,<- eE,cA,cA]
 have:=ru (b:=b) (T:=T) c (a.toList.take o) ((a.toList.drop o).take c.length) (a.toList.drop (o+c.length)) w (by simp;omega) (by rw[<- e];simpa using h);rw[bn,cD (by simp;omega)]at this;exact this
def im(g:Nat):∀(a:List Value)(o:Nat)(w:World),(w.setCells g o a).heap.size=w.heap.size
 |[],_,_=>rfl
 |v::a,o,w=>by rw[World.setCells,im g a];simp
def jD.set{α:Type}{R:pB α}{k:Nat}(ok:kR k R){T:TypeId}{base:Nat}{w:World}{g n c:Nat}{l:List α}(h:jD R k T base w (.slice (J g) n c) l){i:Nat}(hi:i<l.length){x:α}{cs:List Value}
 (v:R (fun b=>base<=b/\b<w.heap.size/\b≠g) w x cs):jD R k T base (w.setCells g (i*k) cs) (.slice (J g) n c) (l.set i x):=by
 obtain⟨css,h1,h2,h3,A⟩:=h;have a:=ok.len v;have q:(Value.slice (J g) n c).ownBlock=some g:=rfl
 have t:∀{y:α}{ds:List Value},R (fun b=>base<=b/\b<w.heap.size/\b≠g) w y ds->R (fun b=>base<=b/\b<(w.setCells g (i*k) cs).heap.size/\(Value.slice (J g) n c).ownBlock≠some b) (w.setCells g (i*k) cs) y ds:=fun C=>
  ok.kept C ((gK g cs (i*k) w).mono (fun b h=>h.2.2)) (fun b h=>⟨h.1,by rw[im];exact h.2.1,by rw[q];intro e;cases e;exact h.2.2 rfl⟩)
 refine⟨css.set i cs,by simp[h1],?_,?_,?_⟩
 .intro d f
  obtain f|rfl:=bH f
  .exact h2 d f
  .exact a
 .rw[dL]
  obtain ⟨e,_⟩|⟨L,cap,p,e,D,E,z,F,H,K⟩:=h3.2
  .cases e
  .cases e
   have m:=Ui k (show i+1<=l.length from hi);rw[df]at m;have r:=Ui k z
   have u:(css.set i cs).flatten.length=l.length*k:=by
    rw[lK (k:=k) _ (fun d f=>by
     obtain f|rfl:=bH f
     .exact h2 d f
     .exact a),dL,h1]
   refine⟨u,VS ⟨g,c,_,rfl,D,tH E (i*k) cs (by rw[a,H];omega),z,F,?_,?_⟩⟩
   .simp[a];omega
   .have B:(p.toList.take (i*k)).length=i*k:=by rw[bn,cD (by simp;omega)]
    have s:(p.toList.take (i*k)++cs).length=i*k+k:=by rw[al,B,a]
    rw[tG css i cs h2 (by omega) a,<- K,fH,aM (by rw[s];exact m),s,List.take_take,cD (by omega),List.drop_take,a]
 .intro j y ds o f
  rw[cF]at o f;by_cases e:i=j
  .subst e
   rw[aq rfl,aq (by omega)]at o f;cases o;cases f;exact t v
  .rw[aj e]at o f
   exact t (ok.kept (A j y ds o f) (gN.refl _ _) (fun b h=>⟨h.1,h.2.1,fun e=>h.2.2 (by rw[q,e])⟩))
def jD.grown{α:Type}{R:pB α}{k:Nat}(ok:kR k R){T:TypeId}{base:Nat}{w w':World}{v:Value}{l l':List α}{css ds:List (List Value)}(h:css.length=l.length/\(∀c∈css,c.length=k)/\ ∀(i:Nat)(x:α)(cs:List Value),l[i]? =some x->css[i]? =some cs->R (fun b=>base<=b/\b<w.heap.size/\v.ownBlock≠some b) w x cs)
 (m:ds.length=l'.length/\(∀c∈ds,c.length=k)/\ ∀(i:Nat)(x:α)(cs:List Value),l'[i]? =some x->ds[i]? =some cs->R (fun b=>base<=b/\b<w.heap.size/\v.ownBlock≠some b) w x cs)
 {g cap:Nat}(f:w'.ownsRow base T k (.slice (J g) (l.length+l'.length) cap) (l.length+l'.length) (css.flatten++ds.flatten))(d:w.grownBy w' v.ownBlock)(hat:v.ownBlock=some g\/g=w.heap.size):
 jD R k T base w' (.slice (J g) (l.length+l'.length) cap) (l++l'):=by
 have n:∀{y:α}{cs:List Value},R (fun b=>base<=b/\b<w.heap.size/\v.ownBlock≠some b) w y cs->R (fun b=>base<=b/\b<w'.heap.size/\(Value.slice (J g) (l.length+l'.length) cap).ownBlock≠some b) w' y cs:=fun o=>
  ok.kept o ((nW d).mono (fun b h=>h.2)) (fun b h=>⟨h.1,eb h.2.1 d.size,fun e=>by
   have e:g=b:=by simpa[Value.ownBlock]using e
   subst e
   obtain e|e:=hat
   .exact h.2.2 e
   .have:=h.2.1;omega⟩)
 refine⟨css++ds,by simp[h.1,m.1],fun c a=>?_,by rw[cG,al];exact f,fun i x cs j a=>?_⟩
 .obtain a|a:=bj.1 a
  .exact h.2.1 c a
  .exact m.2.1 c a
 .by_cases hi:i<l.length
  .rw[aF hi]at j
   rw[aF (by omega)]at a;exact n (h.2.2 i x cs j a)
  .rw[aY (by omega)]at j
   rw[aY (by omega),h.1]at a;exact n (m.2.2 _ x cs j a)
def Uq{ops:Array Oper}{j:List Oper}{o:Oper}{a:Act}{Q:Exit->Act->World->Prop}{W:World}{α:Type}{R:pB α}{k:Nat}(ok:kR k R){T p:TypeId}{z:Value}{d:Nat}(C:prog.underlying p=some (.slice T))(hT:(prog.info? T).map (fun i=>(i.zero,i.size,i.bytes))=some (some z,k,d))(hz:z.cells.size=k)(A:0<k)(D:d<=10000)
 (F:o.guard=none)(s x:Operand)
 (ho:o.op=.call {callee:=.builtin .append,args:=#[s,x],argTypes:=#[p,p]})(base:Nat)(w:World)(v:Value)(l:List α)(y:α)(cs:List Value)
 (hs:a.eval s=v)(hrow:jD R k T base w v l)(hW:W=w.alloc (.cells cs.toArray T))(n:a.eval x=.slice (J (w.heap.size)) 1 1)(hy:R (fun b=>base<=b/\b<w.heap.size/\v.ownBlock≠some b) w y cs)(hlen:l.length<=1000000)(hbase:base<=w.heap.size)
 (h:∀g cap w',jD R k T base w' (.slice (J g) (l.length+1) cap) (l++[y])->(∀B w0,B<=base->Below B w0 w->Below B w0 w')->gN (fun b=>b<w.heap.size/\v.ownBlock≠some b) w w'->w.heap.size<=w'.heap.size->wpList prog ops Q j (a.put o.dst (.slice (J g) (l.length+1) cap)) w'):
 wpList prog ops Q (o::j) a W:=by
 subst hW;have f:Below w w (w.alloc (.cells cs.toArray T)):=(TH _ _).alloc (ag _) _;have m:=hrow.go ok f;obtain⟨css,h1,h2,h3,S⟩:=id m;obtain⟨i,H,L,M,N⟩:=sd hT;have E:=ok.len hy
 refine eT F fun K X=>?_
 refine wp_append_lies _ s x p ho base T i z k d C H L M N hz A v l.length css.flatten hs h3
  (J (w.heap.size)) 1 1 cs n (by omega) (World.news_of_block (cs:=cs.toArray) (t:=T) (fr:=(0,0)) (TL w _)) (ok.one hy)
  (by omega) (by unfold maxLen;omega) (af (cB (show l.length+1<=1000001 by omega) D) (by omega)) (af hbase f.size) _ rfl ?_
 intro P q w' r c hat hlt;refine X _ _ (h P q w' ?_ ?_ ?_ (af f.size c.size))
 .refine jD.grown (l':=[y]) (ds:=[cs]) ok ⟨h1,h2,S⟩ ⟨rfl,by simpa using E,fun i x ds n u=>?_⟩ (by simpa using r) c hat
  match i,n,u with
  |0,n,u=>
   cases n;cases u;exact ok.kept hy (gE f|>.mono (fun b h=>h.2.1)) (fun b h=>⟨h.1,eb h.2.1 f.size,h.2.2⟩)
 .intro B w0 hB hb
  refine(hb.alloc (by omega) _).grown c (by have:=f.size;omega) (fun k A=>?_);have:=h3.lt k A;omega
 .intro b hb
  exact(c.block b (eb hb.1 f.size) (fun e=>hb.2 e.symm)).trans (f.block b hb.1)
def qU{ops:Array Oper}{d:List Oper}{o:Oper}{a:Act}{Q:Exit->Act->World->Prop}{W:World}{α:Type}{R:pB α}{k:Nat}(ok:kR k R){T e:TypeId}{z:Value}{c:Nat}(f:prog.underlying e=some (.slice T))(n:(prog.info? T).map (fun i=>(i.zero,i.size,i.bytes))=some (some z,k,c))(r:z.cells.size=k)(p:0<k)(j:c<=10000)
 (m:o.guard=none)(s x:Operand)
 (q:o.op=.call {callee:=.builtin .append,args:=#[s,x],argTypes:=#[e,e]})(base:Nat)(w:World)(v:Value)(l:List α)(y:α)(cs:List Value)
 (hs:a.eval s=v)(hrow:jD R k T base w v l)(hW:W=w.alloc (.cells cs.toArray T))(hx:a.eval x=.slice (J (w.heap.size)) 1 1)(hy:R (fun b=>base<=b/\b<w.heap.size/\v.ownBlock≠some b) w y cs)(hlen:l.length<=1000000)(hbase:base<=w.heap.size)
 (h:∀g cap w',jD R k T base w' (.slice (J g) (l.length+1) cap) (l++[y])->(∀B w0,B<=base->Below B w0 w->Below B w0 w')->wpList prog ops Q d (a.put o.dst (.slice (J g) (l.length+1) cap)) w'):
 wpList prog ops Q (o::d) a W:=
 Uq ok f n r p j m s x q base w v l y cs hs hrow hW hx hy hlen hbase (fun g cap w' h1 h2 _ _=>h g cap w' h1 h2)
def kC{S:Nat->Prop}{P:Program}{ops:Array Oper}{Q:Exit->Act->World->Prop}{id:Nat}{a:Act}{w:World}(n:Nat)(ord:List (Nat×Bool))(c:P.follows .mixedOrders=true)(b:wP .any ops n ord=true)
 (h:tA (gN S) P ops Q n ord a w.drew):(Code.region id ops true).wp P Q a w:=Yu ⟨gN.refl S,fun _ _ _ h=>h.trans⟩ n ord c b h
def IR.at3{N:Nat}{w:World}{a:Option Addr}{n c:Nat}{zs:List Int}(h:IR N w 3 a n c zs){k:Nat}(f:k<n):
 ∃b off,a=some ⟨b,off,none⟩/\b<N/\w.cell? ⟨b,off+k*3,none⟩=some (.int .i64 (zs.getD (k*3) 0))/\w.cell? ⟨b,off+k*3+1,none⟩=some (.int .i64 (zs.getD (k*3+1) 0))/\w.cell? ⟨b,off+k*3+2,none⟩=some (.int .i64 (zs.getD (k*3+2) 0)):=by
 obtain⟨b,off,e,hb,d⟩:=h.2.2 (by omega);exact⟨b,off,e,hb,d (k*3) (by omega),d (k*3+1) (by omega),d (k*3+2) (by omega)⟩
def Qw{zs:List Int}{n k:Nat}(c:zs.length=n*3)(b:k<n):zs.take ((k+1)*3)=zs.take (k*3)++[zs.getD (k*3) 0,zs.getD (k*3+1) 0,zs.getD (k*3+2) 0]:=by
 have e:∀j,j<zs.length->zs.take (j+1)=zs.take j++[zs.getD j 0]:=fun j a=>by
  rw[dV a];simp[ah,a]
 rw[show(k+1)*3=k*3+2+1 by omega,e _ (by omega),show k*3+2=k*3+1+1 by omega,e _ (by omega),e _ (by omega)];simp
def MJ(xs ys:List Int)(a b:Option Addr)(n m c d:Nat)(w:World)(o:IR w w 3 a n c xs)(p:IR w w 3 b m d ys)(D:n<=1000000)(C:m<=1000000):
 Calls prog 192 #[Z a n c,Z b m d] w (iZ w (.bool (decide (xs=ys)))):=by
 have i:=O (o.1);have l:=O (p.1);have z:=O o;have A:=O p;clear o p;by_cases j:n=m
 .subst j
  go_enter func192,ntmps192;go_wp2
  go_loopw [13] (fun q wr=>∃k:Nat,k<=n/\q=.int .i64 (k:Int)/\xs.take (k*3)=ys.take (k*3)/\Below w w wr) (fun q _=>n-(intOf q).toNat)
  case atStart=>exact⟨0,aA _,rfl,by simp,TH _ _⟩
  case round=>
   obtain⟨k,B,rfl,s:HQ _,Hb:HQ _⟩:=hrel;by_cases g:k<n
   .obtain⟨b1,H,rfl,l1,L,x1,x2⟩:=(z.go Hb).at3 g
    obtain⟨b2,K,rfl,F,M,y1,y2⟩:=(A.go Hb).at3 g;have t:=O (Qw i g);have u:=O (Qw l g);generalize xs.getD (k*3) 0=p0 at*;generalize xs.getD (k*3+1) 0=p1 at*;generalize xs.getD (k*3+2) 0=p2 at*;generalize ys.getD (k*3) 0=q0 at*;generalize ys.getD (k*3+1) 0=q1 at*;generalize ys.getD (k*3+2) 0=q2 at*
    have h:(p0=q0/\p1=q1/\p2=q2)\/ ¬(p0=q0/\p1=q1/\p2=q2)/\(((p0==q0)=false)\/(p0=q0/\(p1==q1)=false)\/(p0=q0/\p1=q1/\(p2==q2)=false)):=by
     simp only[ak];omega
    obtain ⟨rfl,rfl,rfl⟩|⟨f,hw⟩:=h
    .go_wp2_with fail
     go_quiet (fail)
     go_wp2
     go_roundw
     case rel=>exact⟨k+1,by omega,by go_num,by rw[t,u,s],gV Hb _⟩
     case measure=>simp[intOf];omega
    .have x:xs≠ys:=fun e=>f (by
      have h1:=t.out;have h2:=u.out;rw[e]at h1;have h3:=h1.symm.trans h2;have v:=List.append_cancel_left h3;simp at v
      exact v)
     have y:=O x;clear f x
     obtain h1|⟨rfl,h1⟩|⟨rfl,rfl,h1⟩:=hw
     all_goals
      go_wp2_with fail
      go_quiet (fail)
      go_wp2;go_ret;exact⟨by rw[aw y.out];rfl,gV Hb _⟩
   .obtain rfl:k=n:=by omega
    go_wp2;go_ret;refine⟨?_,Hb⟩;have:=s.out;rw[<- i,bf,i,<- l,bf]at this;simp[this]
 .have E:((n:Int) !=(m:Int))=true:=by simp;omega
  have f:xs≠ys:=fun e=>j (by have:=i.out;have:=l.out;subst e;omega)
  have r:=O f;clear f;go_enter func192,ntmps192;go_wp2;go_ret;exact⟨by rw[aw r.out];rfl,TH _ _⟩
def BI{a b:ByteArray}(h:a.toList=b.toList):a=b:=by
 rw[ByteArray.toList_eq,ByteArray.toList_eq]at h;exact fj (fU h)
def MK{s t:gW}(l:s.kind=t.kind)(m:s.r9=t.r9)(n:s.i4=t.i4)(o:s.i5=t.i5)(p:s.cm=t.cm)(q:s.order=t.order)(r:s.tg=t.tg)(u:s.i6=t.i6)(v:s.i7=t.i7)(a:s.dx=t.dx)(b:s.dy=t.dy)(c:s.ax=t.ax)(d:s.ay=t.ay)(e:s.az=t.az)
 (f:s.a0=t.a0)(g:s.a1=t.a1)(h:s.a2=t.a2)(d18:s.a3=t.a3)(i:s.p0=t.p0)(j:s.p1=t.p1)(k:s.gA.toList=t.gA.toList):s=t:=by
 have:=BI k;cases s;cases t;simp only[gW.mk.injEq];exact⟨l,m,n,o,p,f,g,h,d18,i,j,q,r,this,u,v,a,b,c,d,e⟩
def ni{g:Nat}{s:gW}{a:Option Addr}{n c:Nat}{b:Act}{o:Oper}{x:Operand}{w:World}(h:Y w g s a n c)(d:o.op=.load 58 x)(e:b.eval x=.pointer (J g)):
 (execOp b.eval o).run prog w=.ok (.value (.agg (⟨s,a,n,c⟩:jt))) w:=by
 unfold execOp;simp only[d,e,Instr.loadAt,Instr.sureAddr,bR,cT,bU,run_loadVar_mid w g 0 58 [s.kind,s.r9,s.i4,s.i5,s.cm,s.a0,s.a1,s.a2,s.a3,s.p0,s.p1,s.order,s.tg,s.gA,s.i6,s.i7,s.dx,s.dy,s.ax,s.ay,s.az,Z a n c] _ h.range underlying58 rfl Tryz.infoSurf]
def Ei(d:Nat){e:TypeId}{k':IntKind}(b:prog.underlying e=some (.int k'))(xs ys:List Int)(n:Nat)(f:xs.length=n)(g:ys.length=n)(w:World):∀a:List Nat,(∀j∈a,j<n)->
 (Op.eqItems (d+1) e 1 (xs.map (Value.int .i64)).toArray (ys.map (Value.int .i64)).toArray a).run prog w=.ok (a.all fun j=>xs.getD j 0==ys.getD j 0) w
 |[],_=>rfl
 |j::a,h=>by
  have m:j<n:=h j (aG ..);have k:=Ei d b xs ys n f g w a (fun i hi=>h i (au _ hi))
  have c:prog.plainKey e=true:=by simp[Program.plainKey,b]
  have p1:=run_part_plain (P:=prog) w c (xs:=(xs.map (Value.int .i64)).toArray) (off:=j*1) (v:=.int .i64 (xs.getD j 0)) (by simp[show j<xs.length by omega,ah]);have l:=run_part_plain (P:=prog) w c (xs:=(ys.map (Value.int .i64)).toArray) (off:=j*1) (v:=.int .i64 (ys.getD j 0)) (by simp[show j<ys.length by omega,ah]);simp only[Op.eqItems,bR,p1,l,bU,run_equalIn_int w d e .i64 k' _ _ b]
  cases hc:(xs.getD j 0==ys.getD j 0)with
  |true=>simp only[gf,bC,de,fh,hc,Bool.true_and];exact k
  |false=>simp only[fT,bX,cT,fh,hc,Bool.false_and]
def QK{xs ys:List Int}{n:Nat}(a:xs.length=n)(b:ys.length=n):((List.range n).all fun j=>xs.getD j 0==ys.getD j 0)=decide (xs=ys):=by
 rw[bJ,an,aD];constructor
 .intro h
  apply List.ext_getElem (by omega)
  intro i h1 h2;have:=h i (aJ.2 (by omega));simpa[ah,h1,h2]using this
 .rintro rfl j _
  simp
def sk(d:Nat){t e:TypeId}{n:Nat}{k':IntKind}(h:prog.underlying t=some (.array n e))(hi:(prog.info? e).isSome=true)(f:prog.underlying e=some (.int k'))(c:prog.cellsOf e=1)(xs ys:List Int)(a:xs.length=n)(b:ys.length=n)(w:World):
 (Op.equalIn (d+2) t (.agg (xs.map (Value.int .i64)).toArray) (.agg (ys.map (Value.int .i64)).toArray)).run prog w=.ok (decide (xs=ys)) w:=by
 obtain⟨i,hi⟩:=eL.1 hi;rw[run_equalIn_array w (d+1) _ _ h hi,c,Ei d f xs ys n a b w (List.range n) (fun j g=>aJ.1 g),QK a b]
def Sl(s t:gW)(w:World):(Op.equalIn 9999 264 (.agg #[s.kind,s.r9,s.i4,s.i5,s.cm,s.order,s.tg,s.i6,s.i7,s.dx,s.dy,s.ax,s.ay,s.az,oZ,oZ]) (.agg #[t.kind,t.r9,t.i4,t.i5,t.cm,t.order,t.tg,t.i6,t.i7,t.dx,t.dy,t.ax,t.ay,t.az,oZ,oZ])).run prog w=.ok (decide ([s.kind,s.r9,s.i4,s.i5,s.cm,s.order,s.tg,s.i6,s.i7,s.dx,s.dy,s.ax,s.ay,s.az,0,0]=[t.kind,t.r9,t.i4,t.i5,t.cm,t.order,t.tg,t.i6,t.i7,t.dx,t.dy,t.ax,t.ay,t.az,0,0])) w:=
 sk 9997 (n:=16) (k':=.i64) underlying264 (by kernel_rfl) underlying3 (by kernel_rfl) [s.kind,s.r9,s.i4,s.i5,s.cm,s.order,s.tg,s.i6,s.i7,s.dx,s.dy,s.ax,s.ay,s.az,0,0] [t.kind,t.r9,t.i4,t.i5,t.cm,t.order,t.tg,t.i6,t.i7,t.dx,t.dy,t.ax,t.ay,t.az,0,0] rfl rfl w
def Tz(s t:gW)(w:World):(Op.equalIn 9999 54 (.agg #[s.a0,s.a1,s.a2,s.a3]) (.agg #[t.a0,t.a1,t.a2,t.a3])).run prog w=.ok (decide ([s.a0,s.a1,s.a2,s.a3]=[t.a0,t.a1,t.a2,t.a3])) w:=
 sk 9997 (n:=4) (k':=.i64) underlying54 (by kernel_rfl) underlying3 (by kernel_rfl) [s.a0,s.a1,s.a2,s.a3] [t.a0,t.a1,t.a2,t.a3] rfl rfl w
def TA(s t:gW)(w:World):(Op.equalIn 9999 55 (.agg #[s.p0,s.p1]) (.agg #[t.p0,t.p1])).run prog w=.ok (decide ([s.p0,s.p1]=[t.p0,t.p1])) w:=
 sk 9997 (n:=2) (k':=.i64) underlying55 (by kernel_rfl) underlying3 (by kernel_rfl) [s.p0,s.p1] [t.p0,t.p1] rfl rfl w
def J7(s t:gW)(xs ys:List Int)(a b:Option Addr)(n m c d:Nat)(w:World)(hx:IR w w 3 a n c xs)(f:IR w w 3 b m d ys)(hn:n<=1000000)(hm:m<=1000000):
 Calls prog 142 #[.agg (⟨s,a,n,c⟩:jt),.agg (⟨t,b,m,d⟩:jt)] w (iZ w (.bool (decide (s=t)&&decide (xs=ys)))):=by
 obtain⟨Q:HQ _,E2:HQ _⟩:=iN w (.cells (⟨s,a,n,c⟩:jt) 58) (.cells (⟨t,b,m,d⟩:jt) 58);have R:=O (iH (w:=w) (.cells (⟨s,a,n,c⟩:jt) 58) (.cells (⟨t,b,m,d⟩:jt) 58));have Hx:=O hx;have Hy:=O f;clear hx f;go_enter func142,ntmps142;go_wp2_with fail;refine gI (fun P=>Y P w s a n c/\Y P (w+1) t b m d/\Below w w P) ⟨Q,E2,R⟩ ?_;clear Q E2 R;rintro x ⟨h1,h2,hb⟩;have A:=h1.lt;have B:=h2.lt;by_cases F:s=t
 .subst F
  refine ic 15 [] [] [(0,true),(1,true),(3,true),(4,true),(2,false),(5,false),(6,true),(7,true),(8,true),(9,true),(10,true),(11,true),(12,false),(13,true),(14,true)] (by kernel_rfl) (by kernel_rfl) ⟨by simp,by simp,fun _ h=>by cases h⟩ (fun _ _ _ _ _ h=>h) (fun _ _ o _ _ h=>by cases o<;>exact h) ?_;refine gZ (v:=?_) ?_ ?_;rotate_left
  .intro y f
   go_simp;rfl
  refine gZ (fun y f=>ni (Y.go h1 (gJ (k:=1) f) A) rfl rfl) ?_;refine gZ (v:=?_) ?_ ?_;rotate_left
  .intro y f
   go_simp;rfl
  refine gZ (fun y f=>ni (Y.go h2 (gJ (k:=1) f) B) rfl rfl) ?_;(try simp only[V]);refine iK (fun x1 r K i=>?_);go_simp;refine(NZ s a n c _).mono ?_;rintro e w2 ⟨rfl,j⟩;refine i _ _ j ?_;clear i K;refine iK (fun x2 u K i=>?_);go_simp;refine(NZ s b m d _).mono ?_;rintro e N ⟨rfl,l⟩;refine i _ _ l ?_;clear i K;(try simp only[V]);have q:Below x x x1:=gJ (k:=1) r;have g:Below x x N:=I (I (I q j) u) l;have D:=Y.go h1 g A;have g2:=Y.go h2 g B;refine gZ (v:=.bool true) ?_ ?_
  .intro y f
   have a7:=Sl s s y;have q4:=Tz s s y;have q2:=TA s s y;unfold uu;go_simp
  (try simp only[V]);refine iy (v:=?_) ?_ ?_;rotate_left
  .intro z
   go_simp;rfl
  try simp only[V]
  iterate 4
   refine gZ (v:=?_) ?_ ?_;rotate_left
   .intro y f
    obtain⟨y0,y1,y2,y3,y4,y5,y6,y7,y8,y9,a8,a9,b0,b1,b2,b3,b4,b5,b6,b7,b8,b9⟩:=Y.cells (Y.go D f D.lt);obtain⟨z0,z1,z2,z3,z4,z5,z6,z7,z8,z9,c0,c1,c2,c3,c4,c5,c6,c7,c8,c9,d0,e0⟩:=Y.cells (Y.go g2 f g2.lt);go_simp;rfl
   try simp only[V]
  refine kH rfl (by rfl) (fun x3 L K i=>?_);go_simp;have C:Below w w x3:=I hb (g.trans (L.mono g.size));refine(MJ xs ys a b n m c d _ (Hx.go C) (Hy.go C) hn hm).mono ?_;rintro e w4 ⟨rfl,E⟩;refine i _ _ E ?_;clear i K;try simp only[V]
  iterate 2
   refine iy (v:=?_) ?_ ?_;rotate_left
   .intro z
    go_simp;rfl
   try simp only[V]
  refine jV rfl (fun w5 p=>?_);have M:=O (I (I C E) p);clear hb j l E p r u L q g C D g2 h1 h2;go_wp2;go_ret;exact⟨by simp,M⟩
 .have H:=O F;clear F
  refine ic 15 [] [] [(0,true),(1,true),(3,true),(4,true),(2,false),(5,false),(6,true),(7,true),(8,true),(9,true),(10,true),(11,true),(12,true),(13,true),(14,true)] (by kernel_rfl) (by kernel_rfl) ⟨by simp,by simp,fun _ h=>by cases h⟩ (fun _ _ _ _ _ h=>h) (fun _ _ o _ _ h=>by cases o<;>exact h) ?_;refine gZ (v:=?_) ?_ ?_;rotate_left
  .intro y f
   go_simp;rfl
  refine gZ (fun y f=>ni (Y.go h1 (gJ (k:=1) f) A) rfl rfl) ?_;refine gZ (v:=?_) ?_ ?_;rotate_left
  .intro y f
   go_simp;rfl
  refine gZ (fun y f=>ni (Y.go h2 (gJ (k:=1) f) B) rfl rfl) ?_;(try simp only[V]);refine iK (fun x1 r K i=>?_);go_simp;refine(NZ s a n c _).mono ?_;rintro e w2 ⟨rfl,j⟩;refine i _ _ j ?_;clear i K;refine iK (fun x2 u K i=>?_);go_simp;refine(NZ t b m d _).mono ?_;rintro e N ⟨rfl,l⟩;refine i _ _ l ?_;clear i K;(try simp only[V]);have q:Below x x x1:=gJ (k:=1) r;have g:Below x x N:=I (I (I q j) u) l;have D:=Y.go h1 g A;have g2:=Y.go h2 g B;refine gZ (v:=.bool false) ?_ ?_
  .intro y f
   have a7:=Sl s t y;have q4:=Tz s t y;have q2:=TA s t y;unfold uu;go_simp;intro d1 d2 d3 d4 d5 d6 d7 d8 d9 S T W X a0 a1 a2 a3 d18 a4 a5 a6;exact H (MK d1 d2 d3 d4 d5 d6 d7 d8 d9 S T W X a0 a1 a2 a3 d18 a4 a5 a6)
  (try simp only[V]);refine iy (v:=?_) ?_ ?_;rotate_left
  .intro z
   go_simp;rfl
  try simp only[V]
  iterate 5
   refine nh rfl (by rfl) ?_;try simp only[V]
  iterate 2
   refine iy (v:=?_) ?_ ?_;rotate_left
   .intro z
    go_simp;rfl
   try simp only[V]
  refine jV rfl (fun w5 p=>?_);have M:=O (I hb (g.trans (p.mono g.size)));clear hb j l p r u q g D g2 h1 h2;go_wp2;go_ret;exact⟨by simp[H.out],M⟩
def rK(s:gW)(zs:List Int):Bool:=!jr 1 4 [s.kind]&& (decide (s=rJ s)&&decide (zs=if s.kind<=2 then zs else[]))
def Ej{k:Int}(h:(!jr 1 4 [k])=true):1<=k/\k<=4:=by
 simp[jr]at h;omega
def BK(s:gW)(zs:List Int)(a:Option Addr)(n c g:Nat)(w:World)(h:Y w g s a n c)(F:IR w w 3 a n c zs)(R:n<=1000000):
 Calls prog 140 #[U g] w (iZ w (.bool (rK s zs))):=by
 have P:=h.lt
 cases h1:(!jr 1 4 [s.kind])with
 |false=>
  have t:=O h1;clear h1 F;go_enter func140,ntmps140;go_wp2_with fail;refine ic 11 [] [] [(0,true),(1,true),(2,false),(3,false),(4,true),(5,true),(6,true),(7,true),(8,true),(9,true),(10,true)] (by kernel_rfl) (by kernel_rfl) ⟨by simp,by simp,fun _ h=>by cases h⟩ (fun _ _ _ _ _ h=>h) (fun _ _ o _ _ h=>by cases o<;>exact h) ?_
  iterate 2
   refine gZ (v:=?_) ?_ ?_;rotate_left
   .intro y E
    obtain⟨y0,y1,y2,y3,y4,y5,y6,y7,y8,y9,W,X,a0,a1,a2,a3,a4,a5,a6,a7,a8,a9⟩:=Y.cells (Y.go h (gJ (k:=1) E) P);go_simp;rfl
   try simp only[V]
  refine iK (fun x1 q K b=>?_);go_simp;refine b _ _ ((TH _ _).alloc (ag _) _) ?_;clear b K;(try simp only[V]);refine iK (fun x2 i K b=>?_);go_simp;have f:Below w w x1:=gJ (k:=1) q;have m:Below w w x2:=f.trans ((mA i).mono f.size);have l:SL x2 x2 (J (x1.heap.size)) 1 1 [s.kind]:=(SY rfl).go i;refine(pz 1 4 [s.kind] _ 1 1 _ l (by omega)).mono ?_;rintro e w2 ⟨A,d⟩;rw[t]at A;subst A;refine b _ _ d ?_;clear b K;(try simp only[V]);refine iy (v:=?_) ?_ ?_;rotate_left
  .intro z
   go_simp;rfl
  try simp only[V]
  iterate 4
   refine nh rfl (by rfl) ?_;try simp only[V]
  iterate 2
   refine iy (v:=?_) ?_ ?_;rotate_left
   .intro z
    go_simp;rfl
   try simp only[V]
  refine jV rfl (fun w5 H=>?_);have N:=O (I (I m d) H);clear d H q i f m l h;go_wp2;go_ret;exact⟨by unfold rK;rw[t];rfl,N⟩
 |true=>
  have t:=O h1;clear h1;go_enter func140,ntmps140;go_wp2_with fail;have Q:=Ej t;refine ic 11 [] [] [(0,true),(1,true),(2,false),(3,false),(4,true),(5,true),(6,true),(7,false),(8,false),(9,true),(10,true)] (by kernel_rfl) (by kernel_rfl) ⟨by simp,by simp,fun _ h=>by cases h⟩ (fun _ _ _ _ _ h=>h) (fun _ _ o _ _ h=>by cases o<;>exact h) ?_
  iterate 2
   refine gZ (v:=?_) ?_ ?_;rotate_left
   .intro y E
    obtain⟨y0,y1,y2,y3,y4,y5,y6,y7,y8,y9,W,X,a0,a1,a2,a3,a4,a5,a6,a7,a8,a9⟩:=Y.cells (Y.go h (gJ (k:=1) E) P);go_simp;rfl
   try simp only[V]
  refine iK (fun x1 q K b=>?_);go_simp;refine b _ _ ((TH _ _).alloc (ag _) _) ?_;clear b K;(try simp only[V]);refine iK (fun x2 i K b=>?_);go_simp;have f:Below w w x1:=gJ (k:=1) q;have m:Below w w x2:=f.trans ((mA i).mono f.size);have l:SL x2 x2 (J (x1.heap.size)) 1 1 [s.kind]:=(SY rfl).go i;refine(pz 1 4 [s.kind] _ 1 1 _ l (by omega)).mono ?_;rintro e w2 ⟨A,d⟩;rw[t]at A;subst A;refine b _ _ d ?_;clear b K;(try simp only[V]);refine iy (v:=?_) ?_ ?_;rotate_left
  .intro z
   go_simp;rfl
  (try simp only[V]);have p:=I m d
  iterate 2
   refine gZ (fun y E=>ni (Y.go h (p.trans (E.mono p.size)) P) rfl rfl) ?_
  (try simp only[V]);refine kH rfl (by rfl) (fun x3 D K b=>?_);go_simp;refine(MI s a n c _ Q.1 Q.2).mono ?_;rintro e w4 ⟨a',n',c',⟨rfl,u⟩,j⟩;refine b _ _ u ?_;clear b K;have C:=p.trans ((D.trans (u.mono D.size)).mono p.size);(try simp only[V]);refine kH rfl (by rfl) (fun T M K b=>?_);go_simp;have r:=C.trans (M.mono C.size)
  have B:IR T T 3 a' n' c' (if s.kind<=2 then zs else[])/\n'<=1000000:=by
   obtain ⟨S,rfl,rfl,rfl⟩|⟨S,rfl,rfl,rfl⟩:=j
   .rw[aq S];exact⟨F.go r,R⟩
   .rw[aj (by omega)];exact⟨IR.nil _ _ _ _ _,by omega⟩
  refine(J7 s (rJ s) zs _ a a' n n' c c' _ (F.go r) B.1 R B.2).mono ?_;rintro e w6 ⟨rfl,x⟩;refine b _ _ x ?_;clear b K;try simp only[V]
  iterate 2
   refine iy (v:=?_) ?_ ?_;rotate_left
   .intro z
    go_simp;rfl
   try simp only[V]
  refine jV rfl (fun w7 L=>?_);have N:=O (I (I r x) L);clear d u x L q i D M f m p C r l h F B j;go_wp2;go_ret;exact⟨by unfold rK;rw[t];simp,N⟩
def pC(s:gW)(zs:List Int)(n:Nat):Nat->Bool
 |0=>rK s zs
 |1=>uU s
 |2=>uV s
 |3=>uW s
 |4=>xI s
 |5=>rI s
 |6=>decide (n<=8)
 |_=>true
def uX(s:gW)(zs:List Int)(n:Nat):Bool:=(List.range 7).all (pC s zs n)
def mP(zs:List Int)(k:Nat):Bool:=oH (zs.getD (k*3) 0) (zs.getD (k*3+1) 0) (zs.getD (k*3+2) 0)
def oA(s:gW)(zs:List Int)(n:Nat):Bool:=uX s zs n&& (List.range n).all (mP zs)
def err(b:Bool)(e:Int):Value:=.int .i64 (if b then 0 else e)
def pD{f:Nat->Bool}{k:Nat}(h:∀j,j<k->f j=true)(a:f k=true):∀j,j<k+1->f j=true:=fun j b=>by
 by_cases e:j=k
 .subst e;exact a
 .exact h j (by omega)
def oI{s:gW}{zs:List Int}{n k:Nat}(b:k<7)(h:pC s zs n k=false):uX s zs n=false:=by
 rw[dw];intro a;have:=an.1 a k (aJ.2 b);rw[h]at this;cases this
def GA{s:gW}{zs:List Int}{n:Nat}(h:∀j,j<7->pC s zs n j=true):uX s zs n=true:=
 an.2 fun j a=>h j (aJ.1 a)
def kJ{P:Program}{o:Oper}{a:Act}{K:Act->World->Prop}{Q:Exit->Act->World->Prop}{v:Value}{w:World}(h:K (a.put o.dst v) w):Oper.upon P o a K Q (.ok (.value v) w):=h
def BL(b x1 x2 c d e f:Value)(w:World):((Sem.run prog (Instr.index 226 (Value.agg #[b,x1,x2,c,d,e,f]) (Value.int IntKind.i64 0)) w).andThen fun a w'=>Result.ok (Next.value a) w')=Result.ok (Next.value b) w:=by kernel_rfl
def BM(b x1 x2 c d e f:Value)(w:World):((Sem.run prog (Instr.index 226 (Value.agg #[b,x1,x2,c,d,e,f]) (Value.int IntKind.i64 1)) w).andThen fun a w'=>Result.ok (Next.value a) w')=Result.ok (Next.value x1) w:=by kernel_rfl
def BN(b x1 x2 c d e f:Value)(w:World):((Sem.run prog (Instr.index 226 (Value.agg #[b,x1,x2,c,d,e,f]) (Value.int IntKind.i64 2)) w).andThen fun a w'=>Result.ok (Next.value a) w')=Result.ok (Next.value x2) w:=by kernel_rfl
def BO(c x1 x2 b d e f:Value)(w:World):((Sem.run prog (Instr.index 226 (Value.agg #[c,x1,x2,b,d,e,f]) (Value.int IntKind.i64 3)) w).andThen fun a w'=>Result.ok (Next.value a) w')=Result.ok (Next.value b) w:=by kernel_rfl
def BP(c x1 x2 d b e f:Value)(w:World):((Sem.run prog (Instr.index 226 (Value.agg #[c,x1,x2,d,b,e,f]) (Value.int IntKind.i64 4)) w).andThen fun a w'=>Result.ok (Next.value a) w')=Result.ok (Next.value b) w:=by kernel_rfl
def BQ(c x1 x2 d e b f:Value)(w:World):((Sem.run prog (Instr.index 226 (Value.agg #[c,x1,x2,d,e,b,f]) (Value.int IntKind.i64 5)) w).andThen fun a w'=>Result.ok (Next.value a) w')=Result.ok (Next.value b) w:=by kernel_rfl
def BS(c x1 x2 d e f b:Value)(w:World):((Sem.run prog (Instr.index 226 (Value.agg #[c,x1,x2,d,e,f,b]) (Value.int IntKind.i64 6)) w).andThen fun a w'=>Result.ok (Next.value a) w')=Result.ok (Next.value b) w:=by kernel_rfl
def xK{w:World}{g:Nat}{l:List Value}{T:TypeId}(h:w.heap[g]? =some (.cells l.toArray T (0,0))):w.rangeAt g 0 l:=by
 intro j v a;simp only[World.cell?,h,aV];simpa using a
def nC(s:gW)(zs:List Int)(a:Option Addr)(n c:Nat)(w:World)(hz:IR w w 3 a n c zs)(hn:n<=1000000)(hg:s.gA.size<=9223372036854775807):
 Calls prog 102 #[.agg (⟨s,a,n,c⟩:jt)] w (iZ w (err (oA s zs n) 110)):=by
 have H1:=O (Y.new w s a n c);have Hz:=O hz;clear hz;go_enter func102,ntmps102;have h2:=TL (w.alloc (.cells (⟨s,a,n,c⟩:jt) 58)) (.cells #[.nilFunc,.nilFunc,.nilFunc,.nilFunc,.nilFunc,.nilFunc,.nilFunc] 226);rw[Wf]at h2;have H2:=O h2;clear h2
 have a1:∀(a:Addr)(f:Fn)(x y:Array Value)(m:Mode)(w:World),(store a (.func f x y) m).run prog w=stored prog w a (.func f x y) m:=fun a f x y m w=>run_store prog w a _ m rfl
 go_wp2_with fail;go_step3;go_wp2_with fail;go_step3
 go_upto_block 0 with fail
 refine gI (fun D=>Y D w s a n c/\Below w w D) ⟨Y.go (B:=w.heap.size+1) H1 ((TH _ _).alloc (by simp) _) (by omega),gY (gY (TH _ _))⟩ ?_;clear H1 H2 a1;rintro C ⟨h1,v⟩;have S1:=O h1;have B1:=O v;have Z1:=O (Hz.go v);have hl:=h1.lt;clear h1 v
 go_cut [4,6]from 17 to 25 (fun q v6 D=>q=err (uX s zs n) 110/\Below C C D)
 case first=>
  go_wp2
  go_loopw [4,18] (fun q p wr=>∃k:Nat,k<=7/\p=.int .i64 (k:Int)/\q=.int .i64 0/\(∀j,j<k->pC s zs n j=true)/\Below C C wr) (fun _ p _=>7-(intOf p).toNat)
  case atStart=>exact⟨0,by omega,rfl,rfl,fun j hj=>by omega,TH _ _⟩
  case round=>
   obtain⟨k,hk,rfl,rfl,r:HQ _,hb⟩:=hrel;have i:=O hb;have o:=O (Y.go S1 hb hl);have Zw:=O (Z1.go hb);clear hb
   have a0:k=0\/k=1\/k=2\/k=3\/k=4\/k=5\/k=6\/k=7:=by omega
   obtain rfl|rfl|rfl|rfl|rfl|rfl|rfl|rfl:=a0
   .cases b:pC s zs n 0 with
    |true=>
     have h:=O b;clear b;go_wp2_with fail;rw[BL];refine kJ ?_;simp only[V]
     go_wp2_with((with_reducible refine(BK s zs a n c w _ o.out Zw.out hn).mono ?_);rintro e l ⟨d,g⟩;rw[show rK s zs=_ from h]at d;subst d)
     go_roundw
     case rel=>exact⟨1,by omega,rfl,rfl,pD r h,I i g⟩
     case measure=>simp[intOf]
    |false=>
     have h:=O b;clear b;go_wp2_with fail;rw[BL];refine kJ ?_;simp only[V]
     go_wp2_with((with_reducible refine(BK s zs a n c w _ o.out Zw.out hn).mono ?_);rintro e l ⟨d,g⟩;rw[show rK s zs=_ from h]at d;subst d)
     go_meet;exact⟨by rw[oI (k:=0) (by omega) h];rfl,I i g⟩
   .cases b:pC s zs n 1 with
    |true=>
     have h:=O b;clear b;go_wp2_with fail;rw[BM];refine kJ ?_;simp only[V]
     go_wp2_with((with_reducible refine(BC s a n c w _ o.out).mono ?_);rintro e l ⟨d,g⟩;rw[show uU s=_ from h]at d;subst d)
     go_roundw
     case rel=>exact⟨2,by omega,rfl,rfl,pD r h,I i g⟩
     case measure=>simp[intOf]
    |false=>
     have h:=O b;clear b;go_wp2_with fail;rw[BM];refine kJ ?_;simp only[V]
     go_wp2_with((with_reducible refine(BC s a n c w _ o.out).mono ?_);rintro e l ⟨d,g⟩;rw[show uU s=_ from h]at d;subst d)
     go_meet;exact⟨by rw[oI (k:=1) (by omega) h];rfl,I i g⟩
   .cases b:pC s zs n 2 with
    |true=>
     have h:=O b;clear b;go_wp2_with fail;rw[BN];refine kJ ?_;simp only[V]
     go_wp2_with((with_reducible refine(BD s a n c w _ o.out).mono ?_);rintro e l ⟨d,g⟩;rw[show uV s=_ from h]at d;subst d)
     go_roundw
     case rel=>exact⟨3,by omega,rfl,rfl,pD r h,I i g⟩
     case measure=>simp[intOf]
    |false=>
     have h:=O b;clear b;go_wp2_with fail;rw[BN];refine kJ ?_;simp only[V]
     go_wp2_with((with_reducible refine(BD s a n c w _ o.out).mono ?_);rintro e l ⟨d,g⟩;rw[show uV s=_ from h]at d;subst d)
     go_meet;exact⟨by rw[oI (k:=2) (by omega) h];rfl,I i g⟩
   .cases b:pC s zs n 3 with
    |true=>
     have h:=O b;clear b;go_wp2_with fail;rw[BO];refine kJ ?_;simp only[V]
     go_wp2_with((with_reducible refine(BE s a n c w _ o.out).mono ?_);rintro e l ⟨d,g⟩;rw[show uW s=_ from h]at d;subst d)
     go_roundw
     case rel=>exact⟨4,by omega,rfl,rfl,pD r h,I i g⟩
     case measure=>simp[intOf]
    |false=>
     have h:=O b;clear b;go_wp2_with fail;rw[BO];refine kJ ?_;simp only[V]
     go_wp2_with((with_reducible refine(BE s a n c w _ o.out).mono ?_);rintro e l ⟨d,g⟩;rw[show uW s=_ from h]at d;subst d)
     go_meet;exact⟨by rw[oI (k:=3) (by omega) h];rfl,I i g⟩
   .cases b:pC s zs n 4 with
    |true=>
     have h:=O b;clear b;go_wp2_with fail;rw[BP];refine kJ ?_;simp only[V]
     go_wp2_with((with_reducible refine(UU s a n c w _ o.out).mono ?_);rintro e l ⟨d,g⟩;rw[show xI s=_ from h]at d;subst d)
     go_roundw
     case rel=>exact⟨5,by omega,rfl,rfl,pD r h,I i g⟩
     case measure=>simp[intOf]
    |false=>
     have h:=O b;clear b;go_wp2_with fail;rw[BP];refine kJ ?_;simp only[V]
     go_wp2_with((with_reducible refine(UU s a n c w _ o.out).mono ?_);rintro e l ⟨d,g⟩;rw[show xI s=_ from h]at d;subst d)
     go_meet;exact⟨by rw[oI (k:=4) (by omega) h];rfl,I i g⟩
   .cases b:pC s zs n 5 with
    |true=>
     have h:=O b;clear b;go_wp2_with fail;rw[BQ];refine kJ ?_;simp only[V]
     go_wp2_with((with_reducible refine(BH s a n c w _ o.out hg).mono ?_);rintro e l ⟨d,g⟩;rw[show rI s=_ from h]at d;subst d)
     go_roundw
     case rel=>exact⟨6,by omega,rfl,rfl,pD r h,I i g⟩
     case measure=>simp[intOf]
    |false=>
     have h:=O b;clear b;go_wp2_with fail;rw[BQ];refine kJ ?_;simp only[V]
     go_wp2_with((with_reducible refine(BH s a n c w _ o.out hg).mono ?_);rintro e l ⟨d,g⟩;rw[show rI s=_ from h]at d;subst d)
     go_meet;exact⟨by rw[oI (k:=5) (by omega) h];rfl,I i g⟩
   .cases b:pC s zs n 6 with
    |true=>
     have h:=O b;clear b;go_wp2_with fail;rw[BS];refine kJ ?_;simp only[V]
     go_wp2_with((with_reducible refine(BG s a n c w _ o.out).mono ?_);rintro e l ⟨d,g⟩;rw[show decide (n<=8)=_ from h]at d;subst d)
     go_roundw
     case rel=>exact⟨7,by omega,rfl,rfl,pD r h,I i g⟩
     case measure=>simp[intOf]
    |false=>
     have h:=O b;clear b;go_wp2_with fail;rw[BS];refine kJ ?_;simp only[V]
     go_wp2_with((with_reducible refine(BG s a n c w _ o.out).mono ?_);rintro e l ⟨d,g⟩;rw[show decide (n<=8)=_ from h]at d;subst d)
     go_meet;exact⟨by rw[oI (k:=6) (by omega) h];rfl,I i g⟩
   .go_wp2
    go_meet;exact⟨by rw[GA r];rfl,i⟩
 case rest=>
  obtain⟨rfl,hb⟩:=hcut;have Sc:=O (Y.go S1 hb hl);have Zc:=O (Z1.go hb);have Bc:=O (I B1 hb);have a3:w.heap.size<wc.heap.size:=eb hl hb.size;have a2:=O (Zc.1);clear hb S1 B1 Z1;obtain⟨k0,k1,k2,k3,k4,k5,k6,k7,k8,k9,F,H,K,L,M,N,P,Q,R,S,T,W⟩:=Sc.cells;generalize b:err (uX s zs n) 110=q at*
  cases hT:uX s zs n with
  |false=>
   have X:=O hT
   obtain rfl:q=.int .i64 110:=by rw[<- b,hT];rfl
   clear b hT;go_wp2_with fail;clear k0 k1 k2 k3 k4 k5 k6 k7 k8 k9 F H K L M N P Q R S T W
   go_loopw [4,28] (fun q p wr=>∃k:Nat,k<=n/\p=.int .i64 (k:Int)/\q=.int .i64 110/\Below wc wc wr) (fun _ p _=>n-(intOf p).toNat)
   case atStart=>exact⟨0,by omega,rfl,rfl,TH _ _⟩
   case round=>
    obtain⟨k,hk,rfl,rfl,i:HQ _⟩:=hrel;by_cases z:k<n
    .obtain⟨b1,o1,rfl,l1,x0,x1,x2⟩:=(Zc.go i).at3 z
     go_wp2
     go_roundw
     case rel=>exact⟨k+1,by omega,by go_num,rfl,by(repeat (first|exact i|apply gY|apply jA|(refine I ?_ (by assumption))))⟩
     case measure=>simp[intOf];omega
    .go_wp2
     go_ret;exact⟨by unfold oA;rw[X];rfl,I Bc i⟩
  |true=>
   have X:=O hT
   obtain rfl:q=.int .i64 0:=by rw[<- b,hT];rfl
   clear b hT;go_wp2_with fail;clear k0 k1 k2 k3 k4 k5 k6 k7 k8 k9 F H K L M N P Q R S T W
   go_loopw [4,28] (fun q p wr=>∃k:Nat,k<=n/\p=.int .i64 (k:Int)/\q=err ((List.range k).all (mP zs)) 110/\Below wc wc wr) (fun _ p _=>n-(intOf p).toNat)
   case atStart=>exact⟨0,by omega,rfl,rfl,TH _ _⟩
   case round=>
    obtain⟨k,hk,rfl,b,i:HQ _⟩:=hrel;by_cases z:k<n
    .obtain⟨b1,o1,rfl,l1,x0,x1,x2⟩:=(Zc.go i).at3 z
     have E:(List.range (k+1)).all (mP zs)=((List.range k).all (mP zs)&&oH (zs.getD (k*3) 0) (zs.getD (k*3+1) 0) (zs.getD (k*3+2) 0)):=by
      rw[bV,er];simp[mP]
     have u:=O E;clear E;generalize zs.getD (k*3) 0=p0 at*;generalize zs.getD (k*3+1) 0=p1 at*;generalize zs.getD (k*3+2) 0=p2 at*
     cases hT:(List.range k).all (mP zs)with
     |false=>
      have A:=O hT;rw[hT]at b;replace b:=b.trans (show err false 110=Value.int .i64 110 from rfl);subst b;clear hT;go_wp2
      go_roundw
      case rel=>exact⟨k+1,by omega,by go_num,by rw[u,A];rfl,by(repeat (first|exact i|apply gY|apply jA|(refine I ?_ (by assumption))))⟩
      case measure=>simp[intOf];omega
     |true=>
      have A:=O hT;rw[hT]at b;replace b:=b.trans (show err true 110=Value.int .i64 0 from rfl);subst b;clear hT
      cases hf:oH p0 p1 p2 with
      |true=>
       have t:=O hf;clear hf
       go_wp2_with((with_reducible refine(Eg _ _ _ _).mono ?_);rintro e l ⟨d,g⟩;rw[t]at d;subst d)
       go_roundw
       case rel=>exact⟨k+1,by omega,by go_num,by rw[u,A,t];rfl,by(repeat (first|exact i|apply gY|apply jA|(refine I ?_ (by assumption))))⟩
       case measure=>simp[intOf];omega
      |false=>
       have t:=O hf;clear hf
       go_wp2_with((with_reducible refine(Eg _ _ _ _).mono ?_);rintro e l ⟨d,g⟩;rw[t]at d;subst d)
       go_roundw
       case rel=>exact⟨k+1,by omega,by go_num,by rw[u,A,t];rfl,by(repeat (first|exact i|apply gY|apply jA|(refine I ?_ (by assumption))))⟩
       case measure=>simp[intOf];omega
    .obtain rfl:k=n:=by omega
     go_wp2;go_ret;exact⟨by rw[b];unfold oA;rw[X];rfl,I Bc i⟩

import Derived.Test.YtgohdcccfkjooaaGreatDoorQAP
namespace Go.Proofs.YtgohdcccfkjooaaGreatDoor
set_option linter.all false
set_option maxRecDepth 100000
set_option maxHeartbeats 1600000
open Go.Proofs.Tryz Go.RowKit
def Ke(h a v2 i j k l m n o b c d e f g w):(Instr.index 345 (Value.agg #[h,a,v2,i,j,k,l,m,n,o,b,c,d,e,f,g]) (Value.int IntKind.i64 1)).run prog w=Result.ok a w:=by kernel_rfl
def Kf(g h v2 i j k l m n o a b c d e f w):(Instr.index 345 (Value.agg #[g,h,v2,i,j,k,l,m,n,o,a,b,c,d,e,f]) (Value.int IntKind.i64 2)).run prog w=Result.ok v2 w:=by kernel_rfl
def Kh(h i v2 g j k l m n o a b c d e f w):(Instr.index 345 (Value.agg #[h,i,v2,g,j,k,l,m,n,o,a,b,c,d,e,f]) (Value.int IntKind.i64 3)).run prog w=Result.ok g w:=by kernel_rfl
def Ki(h i v2 j g k l m n o a b c d e f w):(Instr.index 345 (Value.agg #[h,i,v2,j,g,k,l,m,n,o,a,b,c,d,e,f]) (Value.int IntKind.i64 4)).run prog w=Result.ok g w:=by kernel_rfl
def Kj(h i v2 j k l m n o g a b c d e f w):(Instr.index 345 (Value.agg #[h,i,v2,j,k,l,m,n,o,g,a,b,c,d,e,f]) (Value.int IntKind.i64 9)).run prog w=Result.ok g w:=by kernel_rfl
def GB(g h v2 i j k l m n o a b c d e f w):(Instr.index 345 (Value.agg #[g,h,v2,i,j,k,l,m,n,o,a,b,c,d,e,f]) (Value.int IntKind.i64 10)).run prog w=Result.ok a w:=by kernel_rfl
def GC(g h v2 i j k l m n o b a c d e f w):(Instr.index 345 (Value.agg #[g,h,v2,i,j,k,l,m,n,o,b,a,c,d,e,f]) (Value.int IntKind.i64 11)).run prog w=Result.ok a w:=by kernel_rfl
def GD(g h v2 i j k l m n o b c a d e f w):(Instr.index 345 (Value.agg #[g,h,v2,i,j,k,l,m,n,o,b,c,a,d,e,f]) (Value.int IntKind.i64 12)).run prog w=Result.ok a w:=by kernel_rfl
def GE(g h v2 i j k l m n o b c d a e f w):(Instr.index 345 (Value.agg #[g,h,v2,i,j,k,l,m,n,o,b,c,d,a,e,f]) (Value.int IntKind.i64 13)).run prog w=Result.ok a w:=by kernel_rfl
def GF(g h v2 i j k l m n o b c d e a f w):(Instr.index 345 (Value.agg #[g,h,v2,i,j,k,l,m,n,o,b,c,d,e,a,f]) (Value.int IntKind.i64 14)).run prog w=Result.ok a w:=by kernel_rfl
def GG(g h v2 i j k l m n o b c d e f a w):(Instr.index 345 (Value.agg #[g,h,v2,i,j,k,l,m,n,o,b,c,d,e,f,a]) (Value.int IntKind.i64 15)).run prog w=Result.ok a w:=by kernel_rfl
def Kk(g)(p:Int)(w)(h1:1<=p)(h2:p<=17):
 Calls prog 262 #[U g,p] w (iZ w (.pointer (some ⟨g,mi p,none⟩))):=by
 obtain rfl|rfl|rfl|rfl|rfl|rfl|rfl|rfl|rfl|rfl|rfl|rfl|rfl|rfl|rfl|rfl|rfl:=oL h1 h2
 .have r:=fun(h i v2 j k l m n o q a b c d e f:Value)(w:World)=>Ke h i v2 j k l m n o q a b c d e f w
  go_enter func262,ntmps262
  go_wp2_with fail
  go_quiet (fail)
  go_wp2;go_ret;exact⟨rfl,gV (TH _ _) _⟩
 .have r:=fun(h i v2 j k l m n o q a b c d e f:Value)(w:World)=>Kf h i v2 j k l m n o q a b c d e f w
  go_enter func262,ntmps262
  go_wp2_with fail
  go_quiet (fail)
  go_wp2;go_ret;exact⟨rfl,gV (TH _ _) _⟩
 .have r:=fun(h i v2 j k l m n o q a b c d e f:Value)(w:World)=>Kh h i v2 j k l m n o q a b c d e f w
  go_enter func262,ntmps262
  go_wp2_with fail
  go_quiet (fail)
  go_wp2;go_ret;exact⟨rfl,gV (TH _ _) _⟩
 .have r:=fun(h i v2 j k l m n o q a b c d e f:Value)(w:World)=>Ki h i v2 j k l m n o q a b c d e f w
  go_enter func262,ntmps262
  go_wp2_with fail
  go_quiet (fail)
  go_wp2;go_ret;exact⟨rfl,gV (TH _ _) _⟩
 .go_enter func262,ntmps262
  go_wp2;go_ret;exact⟨rfl,TH _ _⟩
 .go_enter func262,ntmps262
  go_wp2;go_ret;exact⟨rfl,TH _ _⟩
 .go_enter func262,ntmps262
  go_wp2;go_ret;exact⟨rfl,TH _ _⟩
 .go_enter func262,ntmps262
  go_wp2;go_ret;exact⟨rfl,TH _ _⟩
 .have r:=fun(h i v2 j k l m n o q a b c d e f:Value)(w:World)=>Kj h i v2 j k l m n o q a b c d e f w
  go_enter func262,ntmps262
  go_wp2_with fail
  go_quiet (fail)
  go_wp2;go_ret;exact⟨rfl,gV (TH _ _) _⟩
 .have r:=fun(h i v2 j k l m n o q a b c d e f:Value)(w:World)=>GB h i v2 j k l m n o q a b c d e f w
  go_enter func262,ntmps262
  go_wp2_with fail
  go_quiet (fail)
  go_wp2;go_ret;exact⟨rfl,gV (TH _ _) _⟩
 .have r:=fun(h i v2 j k l m n o q a b c d e f:Value)(w:World)=>GC h i v2 j k l m n o q a b c d e f w
  go_enter func262,ntmps262
  go_wp2_with fail
  go_quiet (fail)
  go_wp2;go_ret;exact⟨rfl,gV (TH _ _) _⟩
 .have r:=fun(h i v2 j k l m n o q a b c d e f:Value)(w:World)=>GD h i v2 j k l m n o q a b c d e f w
  go_enter func262,ntmps262
  go_wp2_with fail
  go_quiet (fail)
  go_wp2;go_ret;exact⟨rfl,gV (TH _ _) _⟩
 .have r:=fun(h i v2 j k l m n o q a b c d e f:Value)(w:World)=>GE h i v2 j k l m n o q a b c d e f w
  go_enter func262,ntmps262
  go_wp2_with fail
  go_quiet (fail)
  go_wp2;go_ret;exact⟨rfl,gV (TH _ _) _⟩
 .have r:=fun(h i v2 j k l m n o q a b c d e f:Value)(w:World)=>GF h i v2 j k l m n o q a b c d e f w
  go_enter func262,ntmps262
  go_wp2_with fail
  go_quiet (fail)
  go_wp2;go_ret;exact⟨rfl,gV (TH _ _) _⟩
 .have r:=fun(h i v2 j k l m n o q a b c d e f:Value)(w:World)=>GG h i v2 j k l m n o q a b c d e f w
  go_enter func262,ntmps262
  go_wp2_with fail
  go_quiet (fail)
  go_wp2;go_ret;exact⟨rfl,gV (TH _ _) _⟩
 .go_enter func262,ntmps262
  go_wp2;go_ret;exact⟨rfl,TH _ _⟩
 .go_enter func262,ntmps262
  go_wp2;go_ret;exact⟨rfl,TH _ _⟩
end Go.Proofs.YtgohdcccfkjooaaGreatDoor

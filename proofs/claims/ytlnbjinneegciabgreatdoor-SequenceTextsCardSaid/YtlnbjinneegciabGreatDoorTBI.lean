import Derived.Test.YtlnbjinneegciabGreatDoorTAX
namespace Go.Proofs.YtlnbjinneegciabGreatDoor
set_option linter.all false
set_option maxRecDepth 100000
open Go.Proofs.Tryz Go.ChangeShapes Go.WideShapes Go.ChangeAt Go.RowKit Go.WideElems Go.Maps
abbrev pS:List (String×DataW Unit):=[("math/bits.deBruijn32tab",Rows.laid_math_bits_deBruijn32tab),("math/bits.deBruijn64tab",Rows.laid_math_bits_deBruijn64tab),("internal/strconv.uint64pow10",Rows.laid_internal_strconv_uint64pow10),("unicode/utf8.acceptRanges",Rows.laid_unicode_utf8_acceptRanges),("strconv.ErrRange",Rows.laid_strconv_ErrRange),("strconv.ErrSyntax",Rows.laid_strconv_ErrSyntax),("monocle/surface.places",Rows.laid_monocle_surface_places),("monocle/sequence.params",Rows.laid_monocle_sequence_params),("monocle/sequence.others",Rows.laid_monocle_sequence_others),("monocle/sequence.kinds",Rows.laid_monocle_sequence_kinds),("monocle/sequence.order",Rows.laid_monocle_sequence_order),("monocle/sequence.readers",Rows.laid_monocle_sequence_readers),("unicode/utf8.first",Rows.laid_unicode_utf8_first)]
abbrev xA:List (String×DataW Unit):=[("math/bits.deBruijn32tab",Rows.laid_math_bits_deBruijn32tab),("math/bits.deBruijn64tab",Rows.laid_math_bits_deBruijn64tab),("internal/strconv.uint64pow10",Rows.laid_internal_strconv_uint64pow10),("unicode/utf8.acceptRanges",Rows.laid_unicode_utf8_acceptRanges),("strconv.ErrRange",Rows.laid_strconv_ErrRange),("strconv.ErrSyntax",Rows.laid_strconv_ErrSyntax),("monocle/surface.places",Rows.laid_monocle_surface_places),("monocle/sequence.kinds",Rows.laid_monocle_sequence_kinds),("monocle/sequence.order",Rows.laid_monocle_sequence_order),("unicode/utf8.first",Rows.laid_unicode_utf8_first)]
abbrev SS:List (String×DataW Unit):=[("monocle/sequence.params",Rows.laid_monocle_sequence_params),("monocle/sequence.others",Rows.laid_monocle_sequence_others),("monocle/sequence.readers",Rows.laid_monocle_sequence_readers)]
def CP:(pS.filter fun x=>x.2.handleName?.isNone)=xA:=by kernel_rfl
def OW:(pS.filter fun x=>x.2.handleName?.isSome)=SS:=by kernel_rfl
def vK{w:World}(h:laidMetH prog pS w):laidMet prog xA w:=by
 unfold laidMetH at h;rw[OW,CP]at h;exact h.1
def Tf:prog.globalNamed "internal/strconv.uint64pow10" =some 6:=by kernel_rfl
def Tg:(prog.globals[6]?).map (·.type)=some 298:=by kernel_rfl
def Th:prog.globalNamed "strconv.ErrRange" =some 13:=by kernel_rfl
def Ti:(prog.globals[13]?).map (·.type)=some 120:=by kernel_rfl
def SU: "*" ++ "errors.errorString" = "*errors.errorString" :=by decide
def RL(u:TypeId)(h:prog.typeName? 3 u=some "*errors.errorString"):u=330:=
 typeName_ptr_named (nm:= "errors.errorString") (by rw[SU];kernel_rfl) (by kernel_rfl) (by decide) u (by rw[SU];exact h)
def Mw{w:World}(h:w.ShapedOpen prog):∃m,w.cell? (J 5)=some (.int .i64 m):=
 cell_of_shapedOpen_int (g:=5) (t:=3) (zero:=#[oZ]) h (bZ (by kernel_rfl)) (by kernel_rfl) rfl (by kernel_rfl) (by kernel_rfl) underlying3
def AS{w:World}(h:w.ShapedOpen prog):14<=w.heap.size:=by
 first
  |(obtain⟨cs,a,_⟩:=h.1 11 (Array.replicate 64 (.int .u8 0)) 315 (bZ (by kernel_rfl)) (by kernel_rfl);exact TK a)
  |(obtain⟨cs,a,_⟩:=h.1 13 #[.nilIface] 120 (bZ (by kernel_rfl)) (by kernel_rfl);exact TK a)
def SV{w:World}(h:w.ShapedOpen prog)(b:laidMet prog xA w):GW w:=by
 have h2:=b.tail.tail;obtain⟨a,s,c,-,-,-⟩:=laid_sentinel h2.tail.tail Th Ti underlying120 RL underlying330 underlying332 rfl rfl underlying9 (by kernel_rfl) (by kernel_rfl);exact⟨Mw h,Lib.tabIs_of_head Tf Tg underlying298 underlying274 (by kernel_rfl) (by kernel_rfl) h2,⟨_,_,c⟩,AS h⟩
section
variable{P:Program}{H:Type}{enc:TypeId×Value->H}{w:World}{base:Nat}{sp:Nat->Bool}{held:Bool}{t:TypeId}{v:Value}{n:Nat}{q:List MemPlace}
def OX(a:P.underlying t=some .string){s:List UInt8}(h:DataW.trod enc P w base sp held n t [v]=some (.lit (.string s),q)):v=.string (bs s):=by
 cases n with
 |zero=>simp[DataW.trod]at h
 |succ n=>
  cases v<;>simp[DataW.trod,a]at h;obtain⟨_,h,_⟩:=h;rw[<- h]
def OY{k:IntKind}{z:Int}(a:P.underlying t=some (.int k))(h:DataW.trod enc P w base sp held n t [v]=some (.lit (.int k z),q)):v=.int k z:=by
 cases n with
 |zero=>simp[DataW.trod]at h
 |succ n=>
  cases v<;>simp[DataW.trod,a]at h;obtain⟨⟨h1,_⟩,h2,_⟩:=h;rw[h1,h2]
end
def Gi(l:List UInt8):Nat:=l.foldl (fun a b=>256*a+b.toNat) 1%1373
noncomputable def uL:List Nat:=[1116,778,515,830,1186,388,532,300,1033,1199,971,984,117,1239,1280,1322,847,129,546,1172,740,134,468,1349,1134,254,901,813,1194,1203,46,268,368,628,716,182,519,729,149,430,719,821,828,938,1137,1114,841,244,230,477,710,1281,1277,700,1342,1128,340,770,952,1074,256,244,537,490,233,491,477,206,1029,311,192,213,1078,993,841,519,762,577,464,1248,708,834,1097,95,1323,1146,290,610,982,990,482,1280,597,468,125,213,315,925,1002,865,137,538,894,923,1031,1039,599,1246,157,1280,556,821,675,131,708,1204,190,345,839,841,383,1326,1371,720,716,1255,1243,715,360,279,731,805,257,864,176,734,360,1115,1127,854,182,1106,484,134,183,43,184,185,186,187,188,478,192,167,894,369,435,75,1346,421,3,1300,611,1035,1294,920,235,594,262,322,1031,1023,1255,1284,247,514,923,675,637,737,790,789,830,476,774,616,143,403,362,1117,427,32,562,1305,1366,644,287,47,1018,415,484,770,1211,307,486,1305,1166,876,409,211,1349,658,567,198,168,1106,984,1273,334,658,1350,564,106,1063,728,1357,609,763,1329,34,1082,478,899,736,369,1113,573,1145,964,447,549,589,1359,26,352,1259,1200,473,332,187,834,7,924,872,529,1284,496,351,1032,1135,870,521,826,778,439,74,886,802,946,826,229,442,899,843,1224,781,1121,78,52,53,54,55,56,57,58,59,60,1003,1004,1005,1006,1007,1008,1009,1010,939,940,391,600,1231,686,1119,602,591,142,669,400,583,791,824,89,526,28,1042,497,616,107,925,1171,12,326,1147,673,419,1080,479,1142,749]
noncomputable abbrev Gj(f:Nat):Option (List UInt8):=(prog.funcs[f]?).map (·.name.toUTF8.data.toList)
def CQ:((List.range prog.funcs.size).map fun f=>(Gj f).map Gi)=uL.map some:=by kernel_rfl
def iG{b:List UInt8}{f0:Nat}(h0:Gj f0=some b)(i:((List.range uL.length).filter fun f=>(uL[f]?).any (· ==Gi b))=[f0]):((List.range prog.funcs.size).filter fun f=>(prog.funcs[f]?).any (·.name.toUTF8.data.toList==b))=[f0]:=by
 have c:prog.funcs.size=uL.length:=by
  have:=ai List.length CQ;simpa using this
 rw[<- i,c]
 refine List.filter_congr fun f hf=>?_
 have hf:=aJ.1 hf;have h:=ai (fun l=>l[f]?) CQ;simp only[aR,c,List.getElem?_range hf,Option.map_some]at h
 cases h1:prog.funcs[f]? with
 |none=>
  rw[Gj,h1]at h;rw[ae hf]at h;simp at h
 |some fn=>
  have a:Gj f=some fn.name.toUTF8.data.toList:=by rw[Gj,h1];rfl
  rw[a,ae hf]at h;simp only[Option.map_some,bA]at h;rw[eZ,ae hf,eZ,<- h];by_cases e:fn.name.toUTF8.data.toList=b
  .rw[e];simp
  .have g:Gi fn.name.toUTF8.data.toList≠Gi b:=fun j=>by
    have d:f∈ ((List.range uL.length).filter fun f=>(uL[f]?).any (· ==Gi b)):=List.mem_filter.2 ⟨aJ.2 hf,by rw[ae hf,eZ,<- h,j];simp⟩;rw[i]at d;have:=aK.1 d;subst this;rw[a]at h0;exact e (aE h0)
   rw[ak.2 e,ak.2 g]
def YC(b:List UInt8)(f0:Nat):Prop:=((List.range prog.funcs.size).filter fun f=>(prog.funcs[f]?).any (·.name.toUTF8.data.toList==b))=[f0]
def YA{b:List UInt8}{f0:Nat}(h0:Gj f0=some b:=by kernel_rfl)(hu:((List.range uL.length).filter fun f=>(uL[f]?).any (· ==Gi b))=[f0]:=by kernel_rfl):YC b f0:=iG h0 hu
def Yy(s:List UInt8):List UInt8:=109::([111,110,111,99,108,101,47,115,101,113,117,101,110,99,101,46]++s)
def YB(s:List UInt8):List UInt8:=40::42::Yy ([114,101,97,100,101,114,41,46]++s)
def Yx:List UInt8:=[110,97,109,101]
def Yz(i:Nat):List UInt8:=if i<10 then[48+UInt8.ofNat i]else[49,38+UInt8.ofNat i]

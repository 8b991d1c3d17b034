import Derived.Test.YtgohdcccfkjooaaGreatDoorSAV
namespace Go.Proofs.YtgohdcccfkjooaaGreatDoor
set_option linter.all false
set_option maxRecDepth 100000
open Go.Proofs.Tryz Go.ChangeShapes Go.WideShapes Go.ChangeAt Go.RowKit Go.WideElems Go.Maps
abbrev pS:List (String×DataW Unit):=[("math/bits.deBruijn32tab",Rows.laid_math_bits_deBruijn32tab),("math/bits.deBruijn64tab",Rows.laid_math_bits_deBruijn64tab),("internal/strconv.uint64pow10",Rows.laid_internal_strconv_uint64pow10),("unicode/utf8.acceptRanges",Rows.laid_unicode_utf8_acceptRanges),("strconv.ErrRange",Rows.laid_strconv_ErrRange),("strconv.ErrSyntax",Rows.laid_strconv_ErrSyntax),("monocle/surface.places",Rows.laid_monocle_surface_places),("monocle/sequence.params",Rows.laid_monocle_sequence_params),("monocle/sequence.others",Rows.laid_monocle_sequence_others),("monocle/sequence.kinds",Rows.laid_monocle_sequence_kinds),("monocle/sequence.order",Rows.laid_monocle_sequence_order),("monocle/sequence.readers",Rows.laid_monocle_sequence_readers),("unicode/utf8.first",Rows.laid_unicode_utf8_first)]
abbrev xA:List (String×DataW Unit):=[("math/bits.deBruijn32tab",Rows.laid_math_bits_deBruijn32tab),("math/bits.deBruijn64tab",Rows.laid_math_bits_deBruijn64tab),("internal/strconv.uint64pow10",Rows.laid_internal_strconv_uint64pow10),("unicode/utf8.acceptRanges",Rows.laid_unicode_utf8_acceptRanges),("strconv.ErrRange",Rows.laid_strconv_ErrRange),("strconv.ErrSyntax",Rows.laid_strconv_ErrSyntax),("monocle/surface.places",Rows.laid_monocle_surface_places),("monocle/sequence.kinds",Rows.laid_monocle_sequence_kinds),("monocle/sequence.order",Rows.laid_monocle_sequence_order),("unicode/utf8.first",Rows.laid_unicode_utf8_first)]
abbrev SS:List (String×DataW Unit):=[("monocle/sequence.params",Rows.laid_monocle_sequence_params),("monocle/sequence.others",Rows.laid_monocle_sequence_others),("monocle/sequence.readers",Rows.laid_monocle_sequence_readers)]
def CP:(pS.filter fun x=>x.2.handleName?.isNone)=xA:=by kernel_rfl
def OW:(pS.filter fun x=>x.2.handleName?.isSome)=SS:=by kernel_rfl
def vK{w:World}(h:laidMetH prog pS w):laidMet prog xA w:=by
 unfold laidMetH at h;rw[OW,CP]at h;exact h.1
def Tf:prog.globalNamed "internal/strconv.uint64pow10" =some 8:=by kernel_rfl
def Tg:(prog.globals[8]?).map (·.type)=some 336:=by kernel_rfl
def Th:prog.globalNamed "strconv.ErrRange" =some 10:=by kernel_rfl
def Ti:(prog.globals[10]?).map (·.type)=some 88:=by kernel_rfl
def SU: "*" ++ "errors.errorString" = "*errors.errorString" :=by decide
def RL(u:TypeId)(h:prog.typeName? 3 u=some "*errors.errorString"):u=357:=
 typeName_ptr_named (nm:= "errors.errorString") (by rw[SU];kernel_rfl) (by kernel_rfl) (by decide) u (by rw[SU];exact h)
def Mw{w:World}(h:w.ShapedOpen prog):∃m,w.cell? (J 5)=some (.int .i64 m):=
 cell_of_shapedOpen_int (g:=5) (t:=3) (zero:=#[oZ]) h (bZ (by kernel_rfl)) (by kernel_rfl) rfl (by kernel_rfl) (by kernel_rfl) underlying3
def AS{w:World}(h:w.ShapedOpen prog):14<=w.heap.size:=by
 obtain⟨cs,a,_⟩:=h.1 13 (Array.replicate 64 (.int .u8 0)) 355 (bZ (by kernel_rfl)) (by kernel_rfl);exact TK a
def SV{w:World}(h:w.ShapedOpen prog)(b:laidMet prog xA w):GW w:=by
 have h2:=b.tail.tail;obtain⟨a,s,c,-,-,-⟩:=laid_sentinel h2.tail.tail Th Ti underlying88 RL underlying357 underlying359 rfl rfl underlying9 (by kernel_rfl) (by kernel_rfl);exact⟨Mw h,Lib.tabIs_of_head Tf Tg underlying336 underlying195 (by kernel_rfl) (by kernel_rfl) h2,⟨_,_,c⟩,AS h⟩
section
variable{P:Program}{H:Type}{enc:TypeId×Value->H}{w:World}{base:Nat}{sp:Nat->Bool}{held:Bool}{t:TypeId}{v:Value}{n:Nat}{q:List MemPlace}
def OX(a:P.underlying t=some .string){s:List UInt8}(h:DataW.trod enc P w base sp held n t [v]=some (.lit (.string s),q)):v=.string (bs s):=by
 cases n with
 |zero=>simp[DataW.trod]at h
 |succ n=>
  cases v<;>simp[DataW.trod,a]at h;obtain⟨_,h,_⟩:=h;rw[<- h]
def OY{k:IntKind}{z:Int}(a:P.underlying t=some (.int k))(h:DataW.trod enc P w base sp held n t [v]=some (.lit (.int k z),q)):v=.int k z:=by
 cases n with
 |zero=>simp[DataW.trod]at h
 |succ n=>
  cases v<;>simp[DataW.trod,a]at h;obtain⟨⟨h1,_⟩,h2,_⟩:=h;rw[h1,h2]
end
def Gi(l:List UInt8):Nat:=l.foldl (fun a b=>256*a+b.toNat) 1%2053
noncomputable def uL:List Nat:=[1227,1577,2020,442,1041,1965,1028,1454,643,682,1734,230,1335,235,246,1790,362,2024,2051,1468,404,600,1502,567,1494,1167,1550,423,1372,945,607,880,1435,823,1405,1860,780,1465,896,631,1663,25,974,1137,1549,1217,1365,1025,166,1617,1373,224,177,1163,943,1440,1044,913,459,1721,1482,288,364,1556,1835,1622,1836,1108,976,1266,240,1893,1599,1789,1161,61,1464,1506,1,1914,2021,1368,1190,570,4,1833,684,114,552,1290,1083,879,1293,1816,786,471,1241,950,815,607,606,1108,1960,591,838,112,1764,95,76,1771,640,967,1162,266,1960,348,1830,1341,537,710,357,711,1861,1233,269,821,985,354,1001,1695,477,661,1056,1075,1537,1308,1445,1186,424,867,1148,1282,2024,1656,990,1507,222,469,1477,361,25,1657,221,988,1982,857,277,1057,892,3,167,269,150,1085,196,748,1446,1799,1017,1214,1897,1123,638,1055,1701,198,2013,400,684,1123,2012,875,1937,675,1338,829,1439,754,1471,1827,1744,1579,1350,1410,58,577,1615,344,1386,488,486,111,601,489,738,490,491,492,493,494,483,873,34,1365,633,1433,449,1677,419,953,595,596,821,1382,1451,678,209,1489,53,1724,104,894,1692,1331,72,1469,188,1461,895,1307,1770,970,1150,1753,714,1015,1090,1629,757,927,1636,625,874,993,1899,603,489,1152,1770,1315,1750,1613,1497,699,1869,1227,410,766,891,518,1631,1347,530,344,1266,736,1165,377,28,798,1357,1291,513,1401,1391,1543,594,1080,2049,908,1511,594,279,1844,765,731,1597,980,2031,493,438,998,58,1300,88,1195,381,1693,1996,1997,1998,1999,2000,2001,2002,2003,2004,1880,1881,1882,1883,1884,1885,1886,1887,1274,1275,1437,1928,859,1473,973,751,535,1460,870,979,817,1583,2046,1833,800,1956,493,2050,1318,1258,1357,287,1100,1076,1336,103,603,150,450,927,1544]
noncomputable abbrev Gj(f:Nat):Option (List UInt8):=(prog.funcs[f]?).map (·.name.toUTF8.data.toList)
def CQ:((List.range prog.funcs.size).map fun f=>(Gj f).map Gi)=uL.map some:=by kernel_rfl
def iG{b:List UInt8}{f0:Nat}(h0:Gj f0=some b)(i:((List.range uL.length).filter fun f=>(uL[f]?).any (· ==Gi b))=[f0]):((List.range prog.funcs.size).filter fun f=>(prog.funcs[f]?).any (·.name.toUTF8.data.toList==b))=[f0]:=by
 have c:prog.funcs.size=uL.length:=by
  have:=ai List.length CQ;simpa using this
 rw[<- i,c]
 refine List.filter_congr fun f hf=>?_
 have hf:=aJ.1 hf;have h:=ai (fun l=>l[f]?) CQ;simp only[aR,c,List.getElem?_range hf,Option.map_some]at h
 cases h1:prog.funcs[f]? with
 |none=>
  rw[Gj,h1]at h;rw[ae hf]at h;simp at h
 |some fn=>
  have a:Gj f=some fn.name.toUTF8.data.toList:=by rw[Gj,h1];rfl
  rw[a,ae hf]at h;simp only[Option.map_some,bA]at h;rw[eZ,ae hf,eZ,<- h];by_cases e:fn.name.toUTF8.data.toList=b
  .rw[e];simp
  .have g:Gi fn.name.toUTF8.data.toList≠Gi b:=fun j=>by
    have d:f∈ ((List.range uL.length).filter fun f=>(uL[f]?).any (· ==Gi b)):=List.mem_filter.2 ⟨aJ.2 hf,by rw[ae hf,eZ,<- h,j];simp⟩;rw[i]at d;have:=aK.1 d;subst this;rw[a]at h0;exact e (aE h0)
   rw[ak.2 e,ak.2 g]
def RM:((List.range prog.funcs.size).filter fun f=>(prog.funcs[f]?).any (·.name.toUTF8.data.toList==[109,111,110,111,99,108,101,47,115,101,113,117,101,110,99,101,46,112,97,114,97,109,115,36,49]))=[308]:=iG (by kernel_rfl) (by kernel_rfl)
def RN:((List.range prog.funcs.size).filter fun f=>(prog.funcs[f]?).any (·.name.toUTF8.data.toList==[109,111,110,111,99,108,101,47,115,101,113,117,101,110,99,101,46,112,97,114,97,109,115,36,50]))=[309]:=iG (by kernel_rfl) (by kernel_rfl)
def RO:((List.range prog.funcs.size).filter fun f=>(prog.funcs[f]?).any (·.name.toUTF8.data.toList==[109,111,110,111,99,108,101,47,115,101,113,117,101,110,99,101,46,112,97,114,97,109,115,36,51]))=[310]:=iG (by kernel_rfl) (by kernel_rfl)
def RP:((List.range prog.funcs.size).filter fun f=>(prog.funcs[f]?).any (·.name.toUTF8.data.toList==[109,111,110,111,99,108,101,47,115,101,113,117,101,110,99,101,46,112,97,114,97,109,115,36,52]))=[311]:=iG (by kernel_rfl) (by kernel_rfl)
def RQ:((List.range prog.funcs.size).filter fun f=>(prog.funcs[f]?).any (·.name.toUTF8.data.toList==[109,111,110,111,99,108,101,47,115,101,113,117,101,110,99,101,46,112,97,114,97,109,115,36,53]))=[312]:=iG (by kernel_rfl) (by kernel_rfl)
def RS:((List.range prog.funcs.size).filter fun f=>(prog.funcs[f]?).any (·.name.toUTF8.data.toList==[109,111,110,111,99,108,101,47,115,101,113,117,101,110,99,101,46,112,97,114,97,109,115,36,54]))=[313]:=iG (by kernel_rfl) (by kernel_rfl)
def RT:((List.range prog.funcs.size).filter fun f=>(prog.funcs[f]?).any (·.name.toUTF8.data.toList==[109,111,110,111,99,108,101,47,115,101,113,117,101,110,99,101,46,112,97,114,97,109,115,36,55]))=[314]:=iG (by kernel_rfl) (by kernel_rfl)
def RU:((List.range prog.funcs.size).filter fun f=>(prog.funcs[f]?).any (·.name.toUTF8.data.toList==[109,111,110,111,99,108,101,47,115,101,113,117,101,110,99,101,46,112,97,114,97,109,115,36,56]))=[315]:=iG (by kernel_rfl) (by kernel_rfl)
def RV:((List.range prog.funcs.size).filter fun f=>(prog.funcs[f]?).any (·.name.toUTF8.data.toList==[109,111,110,111,99,108,101,47,115,101,113,117,101,110,99,101,46,112,97,114,97,109,115,36,57]))=[316]:=iG (by kernel_rfl) (by kernel_rfl)
def Qg:((List.range prog.funcs.size).filter fun f=>(prog.funcs[f]?).any (·.name.toUTF8.data.toList==[109,111,110,111,99,108,101,47,115,101,113,117,101,110,99,101,46,112,97,114,97,109,115,36,49,48]))=[317]:=iG (by kernel_rfl) (by kernel_rfl)
def Qh:((List.range prog.funcs.size).filter fun f=>(prog.funcs[f]?).any (·.name.toUTF8.data.toList==[109,111,110,111,99,108,101,47,115,101,113,117,101,110,99,101,46,112,97,114,97,109,115,36,49,49]))=[318]:=iG (by kernel_rfl) (by kernel_rfl)
def Qi:((List.range prog.funcs.size).filter fun f=>(prog.funcs[f]?).any (·.name.toUTF8.data.toList==[109,111,110,111,99,108,101,47,115,101,113,117,101,110,99,101,46,112,97,114,97,109,115,36,49,50]))=[319]:=iG (by kernel_rfl) (by kernel_rfl)
def Qj:((List.range prog.funcs.size).filter fun f=>(prog.funcs[f]?).any (·.name.toUTF8.data.toList==[109,111,110,111,99,108,101,47,115,101,113,117,101,110,99,101,46,112,97,114,97,109,115,36,49,51]))=[320]:=iG (by kernel_rfl) (by kernel_rfl)
def Qk:((List.range prog.funcs.size).filter fun f=>(prog.funcs[f]?).any (·.name.toUTF8.data.toList==[109,111,110,111,99,108,101,47,115,101,113,117,101,110,99,101,46,112,97,114,97,109,115,36,49,52]))=[321]:=iG (by kernel_rfl) (by kernel_rfl)
def Ql:((List.range prog.funcs.size).filter fun f=>(prog.funcs[f]?).any (·.name.toUTF8.data.toList==[109,111,110,111,99,108,101,47,115,101,113,117,101,110,99,101,46,112,97,114,97,109,115,36,49,53]))=[322]:=iG (by kernel_rfl) (by kernel_rfl)
def Qm:((List.range prog.funcs.size).filter fun f=>(prog.funcs[f]?).any (·.name.toUTF8.data.toList==[109,111,110,111,99,108,101,47,115,101,113,117,101,110,99,101,46,112,97,114,97,109,115,36,49,54]))=[323]:=iG (by kernel_rfl) (by kernel_rfl)
def Qn:((List.range prog.funcs.size).filter fun f=>(prog.funcs[f]?).any (·.name.toUTF8.data.toList==[109,111,110,111,99,108,101,47,115,101,113,117,101,110,99,101,46,112,97,114,97,109,115,36,49,55]))=[324]:=iG (by kernel_rfl) (by kernel_rfl)
def RW:((List.range prog.funcs.size).filter fun f=>(prog.funcs[f]?).any (·.name.toUTF8.data.toList==[109,111,110,111,99,108,101,47,115,101,113,117,101,110,99,101,46,111,116,104,101,114,115,36,49]))=[325]:=iG (by kernel_rfl) (by kernel_rfl)
def RX:((List.range prog.funcs.size).filter fun f=>(prog.funcs[f]?).any (·.name.toUTF8.data.toList==[109,111,110,111,99,108,101,47,115,101,113,117,101,110,99,101,46,111,116,104,101,114,115,36,50]))=[326]:=iG (by kernel_rfl) (by kernel_rfl)
def RY:((List.range prog.funcs.size).filter fun f=>(prog.funcs[f]?).any (·.name.toUTF8.data.toList==[40,42,109,111,110,111,99,108,101,47,115,101,113,117,101,110,99,101,46,114,101,97,100,101,114,41,46,110,97,109,101]))=[327]:=iG (by kernel_rfl) (by kernel_rfl)
def RZ:((List.range prog.funcs.size).filter fun f=>(prog.funcs[f]?).any (·.name.toUTF8.data.toList==[40,42,109,111,110,111,99,108,101,47,115,101,113,117,101,110,99,101,46,114,101,97,100,101,114,41,46,111,98,106,101,99,116]))=[328]:=iG (by kernel_rfl) (by kernel_rfl)
def R5:((List.range prog.funcs.size).filter fun f=>(prog.funcs[f]?).any (·.name.toUTF8.data.toList==[40,42,109,111,110,111,99,108,101,47,115,101,113,117,101,110,99,101,46,114,101,97,100,101,114,41,46,112,117,112,105,108]))=[329]:=iG (by kernel_rfl) (by kernel_rfl)
def R6:((List.range prog.funcs.size).filter fun f=>(prog.funcs[f]?).any (·.name.toUTF8.data.toList==[40,42,109,111,110,111,99,108,101,47,115,101,113,117,101,110,99,101,46,114,101,97,100,101,114,41,46,115,116,111,112]))=[330]:=iG (by kernel_rfl) (by kernel_rfl)
def R7:((List.range prog.funcs.size).filter fun f=>(prog.funcs[f]?).any (·.name.toUTF8.data.toList==[40,42,109,111,110,111,99,108,101,47,115,101,113,117,101,110,99,101,46,114,101,97,100,101,114,41,46,112,114,105,109,97,114,121]))=[331]:=iG (by kernel_rfl) (by kernel_rfl)
def R8:((List.range prog.funcs.size).filter fun f=>(prog.funcs[f]?).any (·.name.toUTF8.data.toList==[40,42,109,111,110,111,99,108,101,47,115,101,113,117,101,110,99,101,46,114,101,97,100,101,114,41,46,102,105,101,108,100]))=[332]:=iG (by kernel_rfl) (by kernel_rfl)
def R9:((List.range prog.funcs.size).filter fun f=>(prog.funcs[f]?).any (·.name.toUTF8.data.toList==[40,42,109,111,110,111,99,108,101,47,115,101,113,117,101,110,99,101,46,114,101,97,100,101,114,41,46,119,97,118,101]))=[333]:=iG (by kernel_rfl) (by kernel_rfl)
def Sa:((List.range prog.funcs.size).filter fun f=>(prog.funcs[f]?).any (·.name.toUTF8.data.toList==[40,42,109,111,110,111,99,108,101,47,115,101,113,117,101,110,99,101,46,114,101,97,100,101,114,41,46,115,117,114,102,97,99,101]))=[334]:=iG (by kernel_rfl) (by kernel_rfl)
def Sb:((List.range prog.funcs.size).filter fun f=>(prog.funcs[f]?).any (·.name.toUTF8.data.toList==[40,42,109,111,110,111,99,108,101,47,115,101,113,117,101,110,99,101,46,114,101,97,100,101,114,41,46,99,111,110,102,105,103]))=[335]:=iG (by kernel_rfl) (by kernel_rfl)
def Sd:((List.range prog.funcs.size).filter fun f=>(prog.funcs[f]?).any (·.name.toUTF8.data.toList==[40,42,109,111,110,111,99,108,101,47,115,101,113,117,101,110,99,101,46,114,101,97,100,101,114,41,46,101,110,100]))=[336]:=iG (by kernel_rfl) (by kernel_rfl)

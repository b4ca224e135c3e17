/- Proved here: What the listed variables hold, out of the row's condition on them. Conditions: what each statement names. -/
import Derived.Test.YtfmbepijhnaklaaGreatDoorRows
import Derived.Test.YtfmbepijhnaklaaGreatDoorK15
import Derived.Test.YtfmbepijhnaklaaGreatDoorK17
import Derived.Lib.LaidU8T
import Derived.PinnedBridge
import Derived.OpenShut
set_option maxRecDepth 100000
set_option maxHeartbeats 4000000
set_option linter.unusedSimpArgs false
set_option linter.unusedVariables false
set_option linter.defProp false
open Nat renaming reduceEqDiff → aA, le_of_ble_eq_true → aG, mul_one → aP, zero_mul → aQ, zero_add → aR, reduceBEq → aY, reduceAdd → aZ, le_refl → bA
open List renaming length_cons → aB, length_append → aC, length_nil → aD, map_toArray → aH, map_cons → aJ, map_nil → aK, perm_iff_count → aM, count_append → aO, getElem?_eq_getElem → aS, count_cons → aT, count_nil → aV
open Go.Proofs.Tryz renaming prog → aE
open Int renaming toNat_natCast → aF, toNat_zero → aN, toNat_one → aX
open Bool renaming false_eq_true → aI, eq_iff_iff → aW
open And renaming intro → aL
open Go.IntWalk renaming i64_in → aU
namespace Go.Proofs.YtfmbepijhnaklaaGreatDoor
section
open Go.Lib
section
variable{P:Program}{w:World}{t:TypeId}{fuel:Nat}{cs:List Value}{p:List MemPlace}
theorem trod_flo{k k':FloatKind}{b:Nat}(ht:P.underlying t=some (.float k))(h:DataW.trod (fun _=>()) P w 0 (fun _=>true) false fuel t cs=some (.lit (.float k' b),p)):cs=[.float k b]:=by
 cases fuel with
 |zero=>simp[DataW.trod]at h
 |succ n=>
  unfold DataW.trod at h;rw[ht]at h;split at h<;>simp_all
theorem trod_ifc{ms:Array (String×TypeId)}{x:DataW Unit}(ht:P.underlying t=some (.interface ms))(h:DataW.trod (fun _=>()) P w 0 (fun _=>true) false fuel t cs=some (x,p)):∃v,cs=[v]∧(v=.nilIface∨∃u z,v=.iface u z):=by
 cases fuel with
 |zero=>simp[DataW.trod]at h
 |succ n=>
  unfold DataW.trod at h;rw[ht]at h;split at h<;>simp_all
theorem addP{b o j:Nat}:(⟨b,o,none⟩:Addr).add j=⟨b,o+j,none⟩:=by
 unfold Addr.add;split<;>simp_all
theorem sliceR{e:TypeId}{ds:List (DataW Unit)}(ht:P.underlying t=some (.slice e))(h:DataW.trod (fun _=>()) P w 0 (fun _=>true) false fuel t cs=some (.slice ds [],p))(hne:0<ds.length)(hz:0<P.cellsOf e):
 ∃b o cap,cs=[.slice (some ⟨b,o,none⟩) ds.length cap]∧∀i d,ds[i]? =some d→∃(fuel':Nat) (q:List MemPlace) (cs':List Value),(∀j,j<P.cellsOf e→bG w.heap b (o+i*P.cellsOf e+j)=cs'[j]?)∧DataW.trod (fun _=>()) P w 0 (fun _=>true) false fuel' e cs'=some (d,q):=by
 rcases DataW.trod_slice ht h with⟨_,hx⟩|⟨a,len,cap,elems,rest,n,rfl,rfl,hx,_,_,_,hl,hel,_⟩
 ·simp at hx
 ·simp only[Prod.mk.injEq,DataW.slice.injEq]at hx;obtain⟨⟨hd,_⟩,_⟩:=hx;have hlen:ds.length=len:=by rw[hd];simpa using hl
  have each:∀i d,ds[i]? =some d→∃(q:List MemPlace) (cs':List Value),(∀j,j<P.cellsOf e→w.cell? ((a.add (i*P.cellsOf e)).add j)=cs'[j]?)∧cs'.length=P.cellsOf e∧DataW.trod (fun _=>()) P w 0 (fun _=>true) false n e cs'=some (d,q):=fun i d hi=>by
   have hi':i<len:=by rw[←hlen];exact(List.getElem?_eq_some_iff.1 hi).1
   have h1:=hel i hi';rw[hd,List.getElem?_map,Option.map_eq_some_iff]at hi;obtain⟨y,hy,rfl⟩:=hi;rw[hy,Option.bind_eq_some_iff]at h1;obtain⟨cs',h2,h3⟩:=h1;obtain⟨_,h4,h5⟩:=World.cells?_some h2;exact⟨y.2,cs',h5,h4,h3⟩
  obtain⟨b,o,sp⟩:=a;obtain⟨q,cs0,h1,h2,_⟩:=each 0 (ds[0]'hne) (aS hne);have hs:=h1 0 hz;rw[aS (by omega)]at hs;have hsp:sp=none:=by simpa[Addr.add]using World.cell?_spot hs
  subst hsp;refine⟨b,o,cap,by rw[hlen],fun i d hi=> ?_⟩;obtain⟨q,cs',h3,_,h5⟩:=each i d hi;refine⟨n,q,cs',fun j hj=> ?_,h5⟩;rw[←h3 j hj,←cell?_heap,addP,addP]
theorem varR{W:World}{n:String}{d:DataW Unit}{g:Nat}(h:VarReads P W n d)(hg:P.globalNamed n=some g)(ht:(P.globals[g]?).map (·.type)=some t):
 ∃(cs:Array Value) (fuel:Nat) (p:List MemPlace),W.var? P n=some cs∧(∀i,bG W.heap g i=cs.toList[i]?)∧DataW.trod (fun _=>()) P W 0 (fun _=>true) false fuel t cs.toList=some (d,p):=by
 obtain⟨g',t',cs,fuel,p,h1,h2,h3,h4⟩:=h;obtain rfl:=Option.some.inj (hg.symm.trans h1);obtain rfl:=Option.some.inj (ht.symm.trans h2);refine⟨cs,fuel,p,h3,fun i=> ?_,h4⟩;rw[←cell?_heap,World.var?_cell hg h3 i,Array.getElem?_toList]
theorem tabR {W:World} {n:String} {g N e:Nat} {k:IntKind} {zs:List Int} (h:VarReads P W n (tabData k zs)) (hg:P.globalNamed n=some g) (ht:(P.globals[g]?).map (·.type)=some t)
 (hu:P.underlying t=some (.array N e)) (he:P.underlying e=some (.int k)) (hce:P.cellsOf e=1) (hct:P.cellsOf t=N) (w:World) (hE:Ext [] W.heap w.heap):TabIs P w n k zs:=by
 obtain⟨cs,fuel,p,hv,_,hd⟩:=varR h hg ht;have hcs:=cells_of_tab hu he hce hct hd;unfold TabIs;unfold World.var? at hv⊢;rw[hg,Option.bind_some]at hv⊢
 have hlt:g<W.heap.size:=by
  rcases Nat.lt_or_ge g W.heap.size with hlt|hge
  ·exact hlt
  ·rw[Array.getElem?_eq_none hge]at hv;cases hv
 rw[hE.2 g hlt (by simp),hv,←hcs]
end
def u8ren:Go.Shelf.Ren:=⟨fun n=>n,fun|119=>100|138=>158|139=>159|n=>n,fun n=>n⟩
theorem u8types:U8Types aE u8ren:=⟨Tryz.underlying5,Tryz.underlying100,Tryz.underlying158,Tryz.underlying159⟩
theorem u8extra:U8Extra aE u8ren:=⟨(by kernel_rfl),(by kernel_rfl),(by kernel_rfl),(by kernel_rfl),(by kernel_rfl),(by kernel_rfl),(by kernel_rfl)⟩
theorem kB{w:World}{t:TypeId}{fuel:Nat}{cs:List Value}{p:List MemPlace}{k k':IntKind}{z:Int}(ht:aE.underlying t=some (.int k))(h:DataW.trod (fun _=>()) aE w 0 (fun _=>true) false fuel t cs=some (.lit (.int k' z),p)):cs=[.int k z]:=by
 obtain⟨n,rfl,hx,_⟩:=DataW.trod_int ht h;simp only[Prod.mk.injEq,DataW.lit.injEq,Lit.int.injEq]at hx;rw[hx.1.2]
theorem rI{cs:List Value}{v:Value}{n:Nat}(h:(cs.drop n).take 1=[v]):cs[n]? =some v:=by
 have:=congrArg (·[0]?) h;simpa[List.getElem?_take,List.getElem?_drop]using this
theorem pow_good:∀i:Fin 9,∃y:Fin 28,1≤y.val∧([1,3,6,9,13,16,19,23,26]:List Int)[i.val]? =some ((y.val:Nat):Int):=by decide
theorem ten_good:∀i:Fin 23,∃y:Nat,([4607182418800017408,4621819117588971520,4636737291354636288,4652007308841189376,4666723172467343360,4681608360884174848,4696837146684686336,4711630319722168320,4726483295884279808,4741671816366391296,4756540486875873280,4771362005757984768,4786511204640096256,4801453603149578240,4816244402031689728,4831355200913801216,4846369599423283200,4861130398305394688,4876203697187506176,4891288408196988160,4906019910204099648,4921056587992461136,4936209963552724370]:List Nat)[i.val]? =some y∧0<y∧y<0x7FF0000000000000:=by
 intro⟨i,hi⟩;have:i<23:=hi
 match i,this with
 |0,_=>exact⟨_,rfl,by decide,by decide⟩
 |1,_=>exact⟨_,rfl,by decide,by decide⟩
 |2,_=>exact⟨_,rfl,by decide,by decide⟩
 |3,_=>exact⟨_,rfl,by decide,by decide⟩
 |4,_=>exact⟨_,rfl,by decide,by decide⟩
 |5,_=>exact⟨_,rfl,by decide,by decide⟩
 |6,_=>exact⟨_,rfl,by decide,by decide⟩
 |7,_=>exact⟨_,rfl,by decide,by decide⟩
 |8,_=>exact⟨_,rfl,by decide,by decide⟩
 |9,_=>exact⟨_,rfl,by decide,by decide⟩
 |10,_=>exact⟨_,rfl,by decide,by decide⟩
 |11,_=>exact⟨_,rfl,by decide,by decide⟩
 |12,_=>exact⟨_,rfl,by decide,by decide⟩
 |13,_=>exact⟨_,rfl,by decide,by decide⟩
 |14,_=>exact⟨_,rfl,by decide,by decide⟩
 |15,_=>exact⟨_,rfl,by decide,by decide⟩
 |16,_=>exact⟨_,rfl,by decide,by decide⟩
 |17,_=>exact⟨_,rfl,by decide,by decide⟩
 |18,_=>exact⟨_,rfl,by decide,by decide⟩
 |19,_=>exact⟨_,rfl,by decide,by decide⟩
 |20,_=>exact⟨_,rfl,by decide,by decide⟩
 |21,_=>exact⟨_,rfl,by decide,by decide⟩
 |22,_=>exact⟨_,rfl,by decide,by decide⟩
 |n+23,h=>exact absurd h (by omega)
theorem scale_good:Pinned.pow10Rows.length=696∧Pinned.pow10Rows.all (fun x=>decide (x.1<18446744073709551616)&&decide (x.2<18446744073709551616))=true:=by decide+kernel
section
variable{W:World}
theorem gl_of(hL:laidMet aE Rows.parseGoodRow.laid W)(hm:MaxLen W.heap):Gl W.heap where
 maxLen:=hm
 space:=tabR (laidMet.reads hL (n:= "strings.asciiSpace") (d:=Lib.tabData .u8 Lib.asciiSpaceTab) (by
  rw[show Lib.tabData .u8 Lib.asciiSpaceTab=Rows.laid_strings_asciiSpace by kernel_rfl]
  exact(by repeat(first|exact .head _|refine .tail _ ?_)))) (g:=1) (t:=100) (by kernel_rfl) (by kernel_rfl) Tryz.underlying100 Tryz.underlying5 (by kernel_rfl) (by kernel_rfl)
 pow:=tabR (laidMet.reads hL (n:= "internal/strconv.uint64pow10") (d:=Lib.tabData .u64 Lib.pow10Tab) (by
  rw[show Lib.tabData .u64 Lib.pow10Tab=Rows.laid_internal_strconv_uint64pow10 by kernel_rfl]
  exact(by repeat(first|exact .head _|refine .tail _ ?_)))) (g:=11) (t:=257) (by kernel_rfl) (by kernel_rfl) Tryz.underlying257 Tryz.underlying85 (by kernel_rfl) (by kernel_rfl)
 utf:=fun w hE=>by
  have h3:=laidMet.reads hL (n:= "unicode/utf8.first") (d:=firstData) (by
   rw[←Pinned.utf8First_eq]
   exact(by repeat(first|exact .head _|refine .tail _ ?_)))
  have h4:=laidMet.reads hL (n:= "unicode/utf8.acceptRanges") (d:=acceptData) (by
   rw[show acceptData=Rows.laid_unicode_utf8_acceptRanges by kernel_rfl]
   exact(by repeat(first|exact .head _|refine .tail _ ?_)))
  obtain⟨k1,k2⟩:=utf8Tabs_of_readsT u8types u8extra h3 h4
  have mv:∀{b o:Nat} {v:Value},W.cell? ⟨b,o,none⟩=some v→w.cell? ⟨b,o,none⟩=some v:=fun h=>by
   rw[cell?_heap]at h⊢;exact hE.cell h (by simp)
  exact⟨fun c hc=>mv (k1 c hc),fun i hi=>⟨mv (k2 i hi).1,mv (k2 i hi).2⟩⟩
theorem err_of{n:String}{d:DataW Unit}{g:Nat}(h:VarReads aE W n d)(hg:aE.globalNamed n=some g)(ht:(aE.globals[g]?).map (·.type)=some 119):∃ev,bG W.heap g 0=some ev∧(ev=.nilIface∨∃te pe,ev=.iface te pe):=by
 obtain⟨cs,fuel,p,_,hc,hd⟩:=varR h hg ht;obtain⟨v,e,hv⟩:=trod_ifc Tryz.underlying119 hd;exact⟨v,by rw[hc,e];rfl,hv⟩
theorem gf_of(hL:laidMet aE Rows.parseGoodRow.laid W):Gf W.heap where
 errS:=err_of (g:=6) (laidMet.reads hL (n:= "strconv.ErrSyntax") (d:=Rows.laid_strconv_ErrSyntax) (by repeat(first|exact .head _|refine .tail _ ?_))) (by kernel_rfl) (by kernel_rfl)
 errR:=err_of (g:=7) (laidMet.reads hL (n:= "strconv.ErrRange") (d:=Rows.laid_strconv_ErrRange) (by repeat(first|exact .head _|refine .tail _ ?_))) (by kernel_rfl) (by kernel_rfl)
 opt:=by
  obtain⟨cs,fuel,p,_,hc,hd⟩:=varR (g:=9) (t:=4) (laidMet.reads hL (n:= "internal/strconv.optimize") (d:=Rows.laid_internal_strconv_optimize) (by repeat(first|exact .head _|refine .tail _ ?_))) (by kernel_rfl) (by kernel_rfl);obtain⟨b,e,hx⟩:=DataW.trod_bool Tryz.underlying4 hd;unfold Rows.laid_internal_strconv_optimize at hx;simp only[Prod.mk.injEq,DataW.lit.injEq,Lit.bool.injEq]at hx;rw[hc,e,←hx.1];rfl
 info:=by
  obtain⟨cs,fuel,p,_,hc,hd⟩:=varR (g:=10) (t:=237) (laidMet.reads hL (n:= "internal/strconv.float64info") (d:=Rows.laid_internal_strconv_float64info) (by repeat(first|exact .head _|refine .tail _ ?_))) (by kernel_rfl) (by kernel_rfl);obtain⟨xs,n,_,hx,hl,hxl,hall⟩:=DataW.trod_struct Tryz.underlying237 hd;unfold Rows.laid_internal_strconv_float64info at hx;simp only[Prod.mk.injEq,DataW.agg.injEq]at hx;have c139:aE.cellsOf 139=1:=(by kernel_rfl);have c3:aE.cellsOf 3=1:=(by kernel_rfl)
  match xs,hxl,hx.1 with
  |[x0,x1,x2],_,hx1=>
   simp only[aJ,aK,List.cons.injEq,and_true]at hx1;obtain⟨e0,e1,e2⟩:=hx1;have a0:=hall 0 _ rfl;have a1:=hall 1 _ rfl;have a2:=hall 2 _ rfl;change DataW.trod (fun _=>()) aE W 0 (fun _=>true) false n 139 ((cs.toList.drop 0).take (aE.cellsOf 139))=some x0 at a0;rw[c139]at a0;change DataW.trod (fun _=>()) aE W 0 (fun _=>true) false n 139 ((cs.toList.drop 1).take (aE.cellsOf 139))=some x1 at a1;rw[c139]at a1;change DataW.trod (fun _=>()) aE W 0 (fun _=>true) false n 3 ((cs.toList.drop 2).take (aE.cellsOf 3))=some x2 at a2;rw[c3]at a2;obtain⟨d0,q0⟩:=x0;obtain⟨d1,q1⟩:=x1;obtain⟨d2,q2⟩:=x2;subst e0;subst e1;subst e2;rw[hc,hc,hc];exact⟨rI (kB Tryz.underlying139 a0),rI (kB Tryz.underlying139 a1),rI (kB Tryz.underlying3 a2)⟩
 ten:=by
  obtain⟨cs,fuel,p,_,hc,hd⟩:=varR (g:=14) (t:=274) (laidMet.reads hL (n:= "internal/strconv.float64pow10") (d:=Rows.laid_internal_strconv_float64pow10) (by repeat(first|exact .head _|refine .tail _ ?_))) (by kernel_rfl) (by kernel_rfl);have c32:aE.cellsOf 32=1:=(by kernel_rfl);obtain⟨b,o,cap,e,hel⟩:=sliceR Tryz.underlying274 hd (by decide) (by rw[c32];decide);refine⟨b,o,cap,by rw[hc,e];rfl,fun i hi=> ?_⟩;obtain⟨y,hy,y0,y1⟩:=ten_good ⟨i,hi⟩
  obtain⟨f',q,cs',h1,h2⟩:=hel i (.lit (.float .f64 y)) (by
   have:∀(l:List Nat),(l.map fun y=>(DataW.lit (.float .f64 y):DataW Unit))[i]? =(l[i]?).map fun y=>DataW.lit (.float .f64 y):=fun l=>by rw[List.getElem?_map]
   have h3:=this [4607182418800017408,4621819117588971520,4636737291354636288,4652007308841189376,4666723172467343360,4681608360884174848,4696837146684686336,4711630319722168320,4726483295884279808,4741671816366391296,4756540486875873280,4771362005757984768,4786511204640096256,4801453603149578240,4816244402031689728,4831355200913801216,4846369599423283200,4861130398305394688,4876203697187506176,4891288408196988160,4906019910204099648,4921056587992461136,4936209963552724370];rw[hy]at h3
   exact h3)
  have h4:=h1 0 (by rw[c32];decide);rw[c32,trod_flo Tryz.underlying32 h2]at h4;exact⟨y,by simpa using h4,y0,y1⟩
 scale:=fun i hi=>by
  obtain⟨cs,fuel,p,_,hc,hd⟩:=varR (g:=15) (t:=279) (laidMet.reads hL (n:= "internal/strconv.pow10Tab") (d:=Pinned.pow10Tab) (by repeat(first|exact .head _|refine .tail _ ?_))) (by kernel_rfl) (by kernel_rfl);have c278:aE.cellsOf 278=2:=(by kernel_rfl);have c85:aE.cellsOf 85=1:=(by kernel_rfl);obtain⟨f',d,q,hdi,he⟩:=array_elem Tryz.underlying279 hd i hi;obtain⟨s1,s2⟩:=scale_good;obtain⟨x,hx⟩:∃x,Pinned.pow10Rows[i]? =some x:=⟨_,aS (by omega)⟩;rw[List.getElem?_map,hx,Option.map_some,Option.some.injEq]at hdi;subst hdi;have hb:=List.all_eq_true.1 s2 x (List.mem_of_getElem? hx);simp only[Bool.and_eq_true,decide_eq_true_eq]at hb;rw[c278]at he
  have hcs:=ints_of_struct (zs:=[(x.1:Int),(x.2:Int)]) Tryz.underlying278 (fun j f hj=>by
   match j,hj with
   |0,hj=>simp at hj;subst hj;exact⟨Tryz.underlying85,rfl,c85⟩
   |1,hj=>simp at hj;subst hj;exact⟨Tryz.underlying85,rfl,c85⟩
   |j+2,hj=>simp at hj) (by rw[c278];rfl) he
  have e0:=congrArg (·[0]?) hcs;have e1:=congrArg (·[1]?) hcs;simp only[List.getElem?_take,List.getElem?_drop]at e0 e1;exact⟨x.1,x.2,by rw[hc];simpa using e0,hb.1,by rw[hc];simpa using e1,hb.2⟩
 pow:=by
  obtain⟨cs,fuel,p,_,hc,hd⟩:=varR (g:=13) (t:=33) (laidMet.reads hL (n:= "internal/strconv.powtab") (d:=Rows.laid_internal_strconv_powtab) (by repeat(first|exact .head _|refine .tail _ ?_))) (by kernel_rfl) (by kernel_rfl);have c3:aE.cellsOf 3=1:=(by kernel_rfl);obtain⟨b,o,cap,e,hel⟩:=sliceR Tryz.underlying33 hd (by decide) (by rw[c3];decide);refine⟨b,o,cap,by rw[hc,e];rfl,fun i hi=> ?_⟩;obtain⟨y,y1,hy⟩:=pow_good ⟨i,hi⟩
  obtain⟨f',q,cs',h1,h2⟩:=hel i (.lit (.int .i64 (y.val:Int))) (by
   have:∀(l:List Int),(l.map fun y=>(DataW.lit (.int .i64 y):DataW Unit))[i]? =(l[i]?).map fun y=>DataW.lit (.int .i64 y):=fun l=>by rw[List.getElem?_map]
   have h3:=this [1,3,6,9,13,16,19,23,26];rw[hy]at h3
   exact h3)
  have h4:=h1 0 (by rw[c3];decide);rw[c3,kB Tryz.underlying3 h2]at h4;exact⟨y.val,by simpa using h4,y1,by omega⟩
 cheat:=by
  obtain⟨cs,fuel,p,_,hc,hd⟩:=varR (g:=18) (t:=286) (laidMet.reads hL (n:= "internal/strconv.leftcheats") (d:=Pinned.leftcheats) (by repeat(first|exact .head _|refine .tail _ ?_))) (by kernel_rfl) (by kernel_rfl);have c285:aE.cellsOf 285=2:=(by kernel_rfl);have c3:aE.cellsOf 3=1:=(by kernel_rfl);have c9:aE.cellsOf 9=1:=(by kernel_rfl);have hlen:(Pinned.cheatRows.map fun x=>(DataW.agg [.lit (.int .i64 x.1),.lit (.string x.2)]:DataW Unit)).length=61:=by rw[List.length_map];decide+kernel
  obtain⟨b,o,cap,e,hel⟩:=sliceR (ds:=Pinned.cheatRows.map fun x=>(DataW.agg [.lit (.int .i64 x.1),.lit (.string x.2)]:DataW Unit)) Tryz.underlying286 hd (by rw[hlen];decide) (by rw[c285];decide);rw[hlen]at e;refine⟨b,o,cap,by rw[hc,e];rfl,fun i x hx=> ?_⟩;obtain⟨f',q,cs',h1,h2⟩:=hel i (.agg [.lit (.int .i64 x.1),.lit (.string x.2)]) (by rw[List.getElem?_map,hx];rfl);obtain⟨xs,n,_,hxx,hl,hxl,hall⟩:=DataW.trod_struct Tryz.underlying285 h2;simp only[Prod.mk.injEq,DataW.agg.injEq]at hxx;rw[c285]at h1
  match xs,hxl,hxx.1 with
  |[x0,x1],_,hx1=>
   simp only[aJ,aK,List.cons.injEq,and_true]at hx1;obtain⟨e0,e1⟩:=hx1;have a0:=hall 0 _ rfl;have a1:=hall 1 _ rfl;change DataW.trod (fun _=>()) aE W 0 (fun _=>true) false n 3 ((cs'.drop 0).take (aE.cellsOf 3))=some x0 at a0;rw[c3]at a0;change DataW.trod (fun _=>()) aE W 0 (fun _=>true) false n 9 ((cs'.drop 1).take (aE.cellsOf 9))=some x1 at a1;rw[c9]at a1;obtain⟨d0,q0⟩:=x0;obtain⟨d1,q1⟩:=x1;subst e0;subst e1;have k0:=rI (kB Tryz.underlying3 a0);obtain⟨s,hs,hxs,_⟩:=DataW.trod_string Tryz.underlying9 a1;simp only[Prod.mk.injEq,DataW.lit.injEq,Lit.string.injEq]at hxs;have k1:=rI hs
   have es:s=⟨x.2.toArray⟩:=by
    apply ByteArray.ext;rw[hxs.1]
   rw[es]at k1;have h10:=h1 0 (by decide);have h11:=h1 1 (by decide);exact⟨by rw[Nat.add_zero]at h10;rw[h10];exact k0,by rw[h11];exact k1⟩
end
end
end Go.Proofs.YtfmbepijhnaklaaGreatDoor

/- Proved here: tree.Check says well of a tree that is read | The reference's words and names | The reference's kinds, bodies, operators | The reference's checks of a node's own fields | The reference's checks of kids' kinds | The reference's checks of a switch's, a for's kids | The reference's check of the kids of the other kinds. Conditions: what each statement names. -/
import Derived.Test.YtfmbepijhnaklaaGreatDoorK15
set_option maxRecDepth 100000
set_option maxHeartbeats 4000000
set_option linter.unusedSimpArgs false
set_option linter.unusedVariables false
set_option linter.defProp false
open Nat renaming reduceEqDiff → aA, le_of_ble_eq_true → aG, mul_one → aP, zero_mul → aQ, zero_add → aR, reduceBEq → aY, reduceAdd → aZ, le_refl → bA
open List renaming length_cons → aB, length_append → aC, length_nil → aD, map_toArray → aH, map_cons → aJ, map_nil → aK, perm_iff_count → aM, count_append → aO, getElem?_eq_getElem → aS, count_cons → aT, count_nil → aV
open Go.Proofs.Tryz renaming prog → aE
open Int renaming toNat_natCast → aF, toNat_zero → aN, toNat_one → aX
open Bool renaming false_eq_true → aI, eq_iff_iff → aW
open And renaming intro → aL
open Go.IntWalk renaming i64_in → aU
namespace Go.Proofs.YtfmbepijhnaklaaGreatDoor
section
theorem kq55{k:Nat}:((k:Int)==55)=(k==55):=by rw[aW];simp;omega
theorem fit55(c:UInt8):fitK c 55≠some true:=by
 have f:∀(b:Prop) [Decidable b] (u:Bool) (r:Option Bool),u=false→r≠some true→(if b then some u else r)≠some true:=by
  intro b _ u r hu hr;split
  ·rw[hu];simp
  ·exact hr
 unfold fitK
 repeat(refine f _ _ _ rfl ?_)
 exact nofun
section
variable{ns:List Nd}
theorem FitR.k55{c:UInt8}{n:Nat}{v:Bool}(h:FitR ns c n v)(hv:v=true):∃y,ns[n]? =some y∧y.kind≠55:=by
 have hK:∀{n p},p 55=false→hasK ns n p→∃y,ns[n]? =some y∧y.kind≠55:=fun hp ⟨y,h1,h2⟩=>⟨y,h1,fun e=>by rw[e,hp]at h2;cases h2⟩;have hP:∀{n q},parKids ns n q→∃y,ns[n]? =some y∧y.kind≠55:=fun⟨y,_,_,_,h1,h2,_⟩=>⟨y,h1,by omega⟩
 cases h with
 |kind x hx hf=>exact⟨x,hx,fun e=>by rw[e,hv]at hf;exact fit55 _ hf⟩
 |body h=>
  cases h with
  |base h=>exact hK rfl h
  |label h hk=>exact⟨_,h,by omega⟩
 |get h=>exact hP h
 |set h=>exact hP h
 |name h=>exact hK rfl h
 |decl h=>
  obtain⟨y,i,z,h1,h2,_⟩:=h;exact⟨y,h1,fun e=>by rw[e]at h2;cases h2⟩
theorem MatR.k55{r:List UInt8}{l:List Nat}(h:MatR ns r l):∀n,n∈l→∃y,ns[n]? =some y∧y.kind≠55:=by
 induction h with
 |nil=>simp
 |one hr hf H ih=>exact fun n hn=>(List.mem_cons.1 hn).elim (fun e=>e▸hf.k55 rfl) (ih n)
 |star hf hs H ih=>exact fun n hn=>(List.mem_append.1 hn).elim (fun h=>(hf n h).k55 rfl) (ih n)
 |opt1 hf H ih=>exact fun n hn=>(List.mem_cons.1 hn).elim (fun e=>e▸hf.k55 rfl) (ih n)
 |opt0 H ih=>simp
theorem Shape.k55{k:Nat}{x:List UInt8}{l:List Nat}(h:Shape ns k x l):∀n,n∈l→∃y,ns[n]? =some y∧y.kind≠55:=by
 rcases h.mat with⟨_,h⟩|⟨_,h⟩
 ·intro n hn;obtain⟨j,hj,rfl⟩:=List.mem_iff_getElem.1 hn;obtain⟨y,h1,h2,h3⟩:=h.at.2 j hj;refine⟨y,h1,fun e=> ?_⟩;rcases Nat.mod_two_eq_zero_or_one j with hp|hp
  ·have:=h2 hp;omega
  ·have:=h3 hp;rw[e]at this;cases this
 ·exact h.k55
theorem GoodTree.kids{src:List UInt8}(H:GoodTree src ns):(ns.flatMap (·.kids)).Nodup∧(∀k,k∈ns.flatMap (·.kids)→k<ns.length)∧(∀i,i<ns.length→i=ns.length-1∨i∈ns.flatMap (·.kids))∧(ns.flatMap (·.kids)).length+1=ns.length:=by
 have hf:=H.fo;unfold Forest at hf;have hn:=hf.nodup_iff.2 List.nodup_range;rw[List.singleton_append,List.nodup_cons]at hn;refine⟨hn.2,fun k hk=> ?_,fun i hi=> ?_,?_⟩
 ·have:=hf.mem_iff.1 (show k∈[ns.length-1]++ns.flatMap (·.kids)from by simp only[List.mem_append];exact .inr hk);simpa using this
 ·have:=hf.mem_iff.2 (List.mem_range.2 hi);simpa using this
 ·have:=hf.length_eq;simp only[List.length_range,aC,List.length_singleton]at this;omega
theorem GoodTree.nd{src:List UInt8}(H:GoodTree src ns){i:Nat}{x:Nd}(hx:ns[i]? =some x):(∀k,k∈x.kids→k<i)∧x.kids.length≤ns.length∧(i≠ns.length-1→x.kind≠55):=by
 have hg:=H.good i x hx;obtain⟨h1,h2,h3,h4⟩:=H.kids;have hi:=(List.getElem?_eq_some_iff.1 hx).1;refine⟨fun k hk=> ?_,?_,fun hne=> ?_⟩
 ·have:=hg.shape.lt k hk;rw[List.length_take]at this;omega
 ·obtain⟨l1,l2,e⟩:=List.append_of_mem (List.mem_of_getElem? hx);have h5:=h4;rw[e,List.flatMap_append,List.flatMap_cons]at h5;have:ns.length=l1.length+(l2.length+1):=by rw[e];simp
  simp only[aC,aB]at h5;omega
 ·rcases h3 i hi with h|h
  ·exact absurd h hne
  ·obtain⟨y,hy,hk⟩:=List.mem_flatMap.1 h;obtain⟨j,hj⟩:=List.mem_iff_getElem?.1 hy;obtain⟨z,hz,h55⟩:=((H.good j y hj).shape.mono (List.take_prefix _ _)).k55 i hk;rw[hx]at hz;cases hz;exact h55
def sn(A:List Nat)(n:Nat):List Value:=(List.range n).map fun k=> .bool (A.contains k)
theorem sn_len(A:List Nat)(n:Nat):(sn A n).length=n:=by simp[sn]
theorem qW{A:List Nat}{n k:Nat}(hk:k<n):(sn A n)[k]? =some (.bool (A.contains k)):=by simp[sn,hk]
theorem sn_nil(n:Nat):sn [] n=List.replicate n (.bool false):=by
 apply List.ext_getElem?;intro i;simp[sn,List.getElem?_replicate];by_cases h:i<n<;>simp[h]
theorem sn_set{A:List Nat}{n k:Nat}(hk:k<n):(sn A n).set k (.bool true)=sn (A++[k]) n:=by
 apply List.ext_getElem?;intro i;rw[List.getElem?_set];by_cases h:k=i
 ·subst h;rw[if_pos rfl,if_pos (by rw[sn_len];exact hk),qW hk];simp
 ·rw[if_neg h];unfold sn;by_cases hi:i<n
  ·simp[hi,h,Ne.symm h]
  ·simp[hi]
end
theorem yK{o:Nat}:∀(vs pre rest:List Value) (k:Nat),vs.length=rest.length→o+k=pre.length→(vs.zipIdx k).foldl (fun(cs:Array Value) p=>cs.setIfInBounds (o+p.2) p.1) (pre++rest).toArray=(pre++vs).toArray
 |[],pre,rest,k,h,_=>by
  have:rest=[]:=List.length_eq_zero_iff.1 h.symm
  subst this;rfl
 |v::vs,pre,[],k,h,_=>by simp at h
 |v::vs,pre,r::rest,k,h,e=>by
  rw[List.zipIdx_cons,List.foldl_cons]
  have e1:(pre++r::rest).toArray.setIfInBounds (o+k) v=((pre++[v])++rest).toArray:=by
   rw[List.setIfInBounds_toArray,e,List.set_append_right _ _ (bA _)];simp
  rw[e1,yK vs (pre++[v]) rest (k+1) (by simpa using h) (by simp;omega)];simp
theorem r_fillN{pl:List (Nat×Nat)}{ps:List (Nat×Value)}{pre rest l:List Value}(h:l.length=rest.length):pI (some (pre.length,l.length)) pl ps (pre++rest) (.agg l.toArray)=lO pl ps (pre++l):=by
 unfold pI lO;dsimp only;rw[if_neg (by simp[Value.cells,h])]
 congr 1
 have:=yK (o:=pre.length) l pre rest 0 h (by simp);simp only[Value.cells];rw[←this,←Array.foldl_toList,Array.toList_zipIdx]
theorem bpl44:bpl aE 44=some (.slice none 0 0::zRules,[(0,1),(1,114)]):=by kernel_rfl
theorem tC:ruleCells.length=114:=by kernel_rfl
theorem build44{a:Option Addr}{n c:Nat}:bldU (bpl aE 44) aE 44 [(0,.slice a n c),(1,.agg ruleCells.toArray)]=some (.agg (Value.slice a n c::ruleCells).toArray):=by
 rw[bpl44,r_bldU,lG];show((pI (some (0,1)) _ _ _ _).map fun l=>Value.agg l.toArray)=_;rw[r_fillS rfl rfl,lG];show((pI (some (1,114)) _ _ _ _).map fun l=>Value.agg l.toArray)=_;have:=r_fillN (pl:=[(0,1),(1,114)]) (ps:=[]) (pre:=[Value.slice a n c]) (rest:=zRules) (l:=ruleCells) (by rw[tC];rfl);rw[tC]at this;have e:(Value.slice none 0 0::zRules).set 0 (.slice a n c)=[Value.slice a n c]++zRules:=rfl;rw[e];refine(congrArg (Option.map fun l=>Value.agg l.toArray) this).trans ?_;rw[rF];rfl
section
variable{h hI:Heap}{vl:Value}{ns:List Nd}
theorem check_c(hG:Gl hI)(hEI:Ext [] hI h)(hN:NS h vl ns){src:List UInt8}(hT:GoodTree src ns)(hfew:ns.length≤100000)(hdeep:gY ns≤200):C aE 6 #[vl] h fun e h'=>e=.returned (.tuple #[.int .i64 0,.int .i64 0])∧Ext [] h h':=by
 obtain⟨b,cap,rfl,_⟩:=hN.node hT.pos;obtain⟨hnd,hlt,hcov,hcnt⟩:=hT.kids;obtain⟨N,hNe⟩:∃N,ns.length=N:=⟨_,rfl⟩;obtain⟨K,hK⟩:∃K,ns.flatMap (·.kids)=K:=⟨_,rfl⟩
 have hkb:∀x,x∈ns→x.kids.length≤1000000:=fun x hx=>by
  obtain⟨i,hi⟩:=List.mem_iff_getElem?.1 hx;have:=(hT.nd hi).2.1;omega
 have d0:decide ((N:Int)>100000)=false:=bD (by omega);rw[hK]at hnd hcnt;rw[hNe]at hfew hcnt hN;rw[hNe];have hlt2:∀k,k∈K→k<N:=fun k hk=>by rw[←hNe];exact hlt k (by rw[hK];exact hk)
 have hcov2:∀i,i<N→i=N-1∨i∈K:=fun i hi=>by rw[←hK,←hNe];exact hcov i (by rw[hNe];exact hi)
 refine C_in Tryz.func6 rfl rfl (by kernel_rfl) (aG rfl) ?_;simp only[↓zp,zw,↓reduceIte,aA,hNe,d0];refine bH rules_k ?_;rintro _ h1 ⟨rfl,hE1⟩;simp only[↓zp,zw,↓reduceIte,aA];refine WvT_of build44 ?_;have hE2:Ext [] h1 (h1.push (.cells (Value.slice (some ⟨b,0,none⟩) N cap::ruleCells).toArray 44)):=Ext.push _ _ _;have hb2:Blk (h1.push (.cells (Value.slice (some ⟨b,0,none⟩) N cap::ruleCells).toArray 44)) h1.size (Value.slice (some ⟨b,0,none⟩) N cap::ruleCells) 44:=Blk.new;simp only[↓zp,zw,↓reduceIte,aA];generalize h1.push (.cells (Value.slice (some ⟨b,0,none⟩) N cap::ruleCells).toArray 44)=h2 at hE2 hb2⊢;refine Wmake (e:=4) (z:=.bool false) (n:=N) Tryz.underlying45 (by kernel_rfl) (by kernel_rfl) rfl (by omega) fun h3 hd3 hE3 hz3=> ?_;simp only[↓zp,zw,↓reduceIte,aA];have E3:Ext [] h h3:=(hE1.trans hE2).trans hE3;have hS3:h1.size<h2.size:=hb2.lt;have HC:∀h',Ext [] h2 h'→CK h' h1.size (.slice (some ⟨b,0,none⟩) N cap) ns:=fun h' hE=>⟨hb2.ext hE (by simp),by exact hN.ext0 ((hE1.trans hE2).trans hE),by rw[hNe];exact hfew,hkb⟩;rw[←sn_nil]at hd3;obtain⟨CKB,hCKB⟩:∃x,h1.size=x:=⟨_,rfl⟩;obtain⟨S,hS⟩:∃x,h2.size=x:=⟨_,rfl⟩;rw[hCKB]at HC;rw[hS]at hd3;have hSge:h.size≤S:=by rw[←hS];exact Nat.le_trans hE1.1 hE2.1
 rw[hCKB,hS];refine⟨fun m ρ h'=> ∃i:Nat,ρ 0=.slice (some ⟨b,0,none⟩) N cap∧ρ 4=.pointer (some ⟨CKB,0,none⟩)∧ρ 5=.slice (some ⟨S,0,none⟩) N N∧ρ 23=.slice (some ⟨b,0,none⟩) N cap∧ρ 24=.int .i64 (N:Int)∧ρ 25=.int .i64 (i:Int)∧Blk h' S (sn ((ns.take i).flatMap (·.kids)) N) 4∧Ext [] h2 h'∧i≤N∧m=N-i,N,⟨0,by simp only[↓zp,zw,↓reduceIte,aA],by simp only[↓zp,zw,↓reduceIte,aA],by simp only[↓zp,zw,↓reduceIte,aA],by simp only[↓zp,zw,↓reduceIte,aA],by simp only[↓zp,zw,↓reduceIte,aA],by simp only[↓zp,zw,↓reduceIte,aA];rfl,hd3,hE3,by omega,rfl⟩,?_⟩;rintro m ρ h4 ⟨i,g0,g4,g5,g23,g24,g25,hd4,hE4,hi,hm⟩;have E24:Ext [] h h4:=(hE1.trans hE2).trans hE4;by_cases hlt:i<N
 ·have d1:decide ((i:Int)<(N:Int))=true:=bC (by omega);have b1:(0:Int)≤(i:Int)∧(i:Int)<(N:Int):=by omega
  obtain⟨x,hx⟩:∃x,ns[i]? =some x:=⟨_,aS (by omega)⟩;obtain⟨hkl,hkn,hk55⟩:=hT.nd hx;have H4:=HC h4 hE4;obtain⟨b',cap',vk,e2,hn,hrk0,hld0,hc⟩:=(HC h2 (Ext.refl _ _)).at hx;simp only[Value.slice.injEq,Option.some.injEq,Addr.mk.injEq,true_and,and_true]at e2;obtain⟨e3,_,e4⟩:=e2;subst e3;subst e4;have hgood:=hT.good i x hx;obtain⟨ak,ckk,rfl,hkid⟩:=cV hrk0;have hrk:=hrk0.ext hE4 (by simp);have hld:=fM hE4 (by simp) hld0;simp only[↓zp,zw,↓reduceIte,aA,g0,g4,g5,g23,g24,g25,d1,b1,aF,hld];have hbA:Blk (h4.push (.cells #[.int .i64 0] 3)) h4.size [.int .i64 0] 3:=Blk.newA;have E45:Ext [] h4 (h4.push (.cells #[.int .i64 0] 3)):=Ext.push _ _ _;have z5:(h4.push (.cells #[.int .i64 0] 3)).size=h4.size+1:=by simp
  generalize h4.push (.cells #[.int .i64 0] 3)=h5 at hbA E45 z5⊢;have hbB:Blk (h5.push (.cells #[.int .i64 0,.string ⟨#[]⟩,.string ⟨#[]⟩,.float .f64 0,.slice none 0 0,.int .i64 0] 35)) h5.size [.int .i64 0,.string ⟨#[]⟩,.string ⟨#[]⟩,.float .f64 0,.slice none 0 0,.int .i64 0] 35:=Blk.newA;have E56:Ext [] h5 (h5.push (.cells #[.int .i64 0,.string ⟨#[]⟩,.string ⟨#[]⟩,.float .f64 0,.slice none 0 0,.int .i64 0] 35)):=Ext.push _ _ _;generalize h5.push (.cells #[.int .i64 0,.string ⟨#[]⟩,.string ⟨#[]⟩,.float .f64 0,.slice none 0 0,.int .i64 0] 35)=h6 at hbB E56⊢;refine bS (hbA.ext E56 (by simp)) (by kernel_rfl) (by simp) rfl fun h7 hbA7 E67 s7=> ?_;have hbB7:=hbB.ext E67 (by simp;omega);simp only[↓zp,zw,↓reduceIte,aA];refine cM hbB7 (by kernel_rfl) rfl (by simp[bM]) rfl fun h8 hbB8 E78 s8=> ?_;replace hbB8:Blk h8 h5.size (bM (x,.slice ak x.kids.length ckk)) 35:=hbB8;replace hbA7:Blk h8 h4.size [.int .i64 (i:Int)] 3:=hbA7.ext E78 (by simp;omega);have E48:Ext [] h4 h8:=((E45.trans E56).trans_new E67 fun y hy=> .inl (by simp at hy;omega)).trans_new E78 fun y hy=> .inl (by simp at hy;omega);have cA:bG h8 h4.size 0=some (.int .i64 (i:Int)):=by rw[bE hbA7];rfl
  have cB:bG h8 h5.size 4=some (.slice ak x.kids.length ckk):=by rw[bE hbB8];rfl
  clear hbA hbB hbB7 E56 E67 E78 s7 s8;simp only[↓zp,zw,↓reduceIte,aA,g0,g4,g5,g23,g24,g25,cB];refine bK (none_k cA (hrk.ext E48 (by simp)) hkl (by omega)) ?_;simp only[↓zp,zw,↓reduceIte,aA,g0,g4,g5,g23,g24,g25,cA];refine bH (node_k hG (hEI.trans (E24.trans E48)) (H4.ext0 E48) hx hgood) ?_;rintro _ h9 ⟨rfl,E89⟩;have cA9:=E89.cell cA (by simp);have cB9:=E89.cell cB (by simp);have E49:=E48.trans E89;have hd9:=hd4.ext E49 (by simp);have hrk9:=hrk.ext E49 (by simp);simp only[↓zp,zw,↓reduceIte,aA,g0,g4,g5,g23,g24,g25,cA9,cB9];have E29:Ext [] h2 h9:=hE4.trans E49;have hw1:=bI (a:=i) (by omega);clear hrk hrk9 cA cA9 cB cB9 hld hbA7 hbB8 H4;obtain⟨A,hA⟩:∃A,(ns.take i).flatMap (·.kids)=A:=⟨_,rfl⟩
  have htk:(ns.take (i+1)).flatMap (·.kids)=A++x.kids:=by
   rw[List.take_add_one,hx,List.flatMap_append,hA];simp
  have hKp:∃R,K=A++x.kids++R:=by
   refine⟨(ns.drop (i+1)).flatMap (·.kids),?_⟩;rw[←htk,←List.flatMap_append,List.take_append_drop,hK]
  obtain⟨R,hKR⟩:=hKp;rw[hA]at hd9;have hsm:x.kids.length≤100000:=by omega
  refine⟨fun m2 ρ h'=> ∃j:Nat,ρ 0=.slice (some ⟨b,0,none⟩) N cap∧ρ 4=.pointer (some ⟨CKB,0,none⟩)∧ρ 5=.slice (some ⟨S,0,none⟩) N N∧ρ 23=.slice (some ⟨b,0,none⟩) N cap∧ρ 24=.int .i64 (N:Int)∧ρ 25=.int .i64 (i:Int)∧ρ 42=.slice ak x.kids.length ckk∧ρ 43=.int .i64 ((x.kids.length:Nat):Int)∧ρ 44=.int .i64 (j:Int)∧Blk h' S (sn (A++x.kids.take j) N) 4∧Ext [] h2 h'∧j≤x.kids.length∧m2=x.kids.length-j,x.kids.length,⟨0,by simp only[↓zp,zw,↓reduceIte,aA,g0],by simp only[↓zp,zw,↓reduceIte,aA,g4],by simp only[↓zp,zw,↓reduceIte,aA,g5],by simp only[↓zp,zw,↓reduceIte,aA,g23],by simp only[↓zp,zw,↓reduceIte,aA,g24],by simp only[↓zp,zw,↓reduceIte,aA,g25],by simp only[↓zp,zw,↓reduceIte,aA],by simp only[↓zp,zw,↓reduceIte,aA],by simp only[↓zp,zw,↓reduceIte,aA];rfl,by simpa using hd9,E29,by omega,rfl⟩,?_⟩;rintro m2 ρ h10 ⟨j,f0,f4,f5,f23,f24,f25,f42,f43,f44,hd10,E210,hj,hm2⟩;by_cases hjl:j<x.kids.length
  ·have d2:decide ((j:Int)<((x.kids.length:Nat):Int))=true:=bC (by omega);have b2:(0:Int)≤(j:Int)∧(j:Int)<((x.kids.length:Nat):Int):=by omega
   have w2:=bI (a:=j) (by omega);obtain⟨bk,rfl,hck⟩:=hkid j hjl;have hck10:=E210.cell hck (by simp);have htj:x.kids.take (j+1)=x.kids.take j++[x.kids[j]'hjl]:=by rw[List.take_add_one,aS hjl];rfl
   have hqN:x.kids[j]'hjl<N:=Nat.lt_trans (hkl _ (List.getElem_mem hjl)) hlt
   have hnot:(A++x.kids.take j).contains (x.kids[j]'hjl)=false:=by
    have e:K=(A++x.kids.take j)++(x.kids[j]'hjl::(x.kids.drop (j+1)++R)):=by
     rw[hKR,←List.cons_append,List.getElem_cons_drop,List.append_assoc,List.append_assoc,←List.append_assoc (x.kids.take j),List.take_append_drop]
    rw[e]at hnd;have:=(List.nodup_append.1 hnd).2.2;simp only[List.contains_eq_mem,decide_eq_false_iff_not];exact fun hm=>this _ hm _ (by simp) rfl
   generalize x.kids[j]'hjl=q at hck10 htj hqN hnot;have b3:(0:Int)≤(q:Int)∧(q:Int)<(N:Int):=by omega
   have hsq:bG h10 S (q*1)=some (.bool false):=by rw[bE hd10,aP,qW hqN,hnot]
   simp only[↓zp,zw,↓reduceIte,aA,f0,f4,f5,f23,f24,f25,f42,f43,f44,d2,b2,b3,aF,hck10,hsq];refine bS (o:=q*1) hd10 (by kernel_rfl) (by rw[sn_len];omega) rfl fun h11 hd11 E1011 s11=> ?_;rw[aP,sn_set hqN,List.append_assoc,←htj]at hd11;simp only[↓zp,zw,↓reduceIte,aA,f0,f4,f5,f23,f24,f25,f42,f43,f44,w2];exact⟨x.kids.length-(j+1),by omega,j+1,by trivial,by trivial,by trivial,by trivial,by trivial,by trivial,by trivial,by trivial,by trivial,hd11,E210.trans_new E1011 fun y hy=> .inl (by simp at hy;omega),by omega,rfl⟩
  ·have d2:decide ((j:Int)<((x.kids.length:Nat):Int))=false:=bD (by omega);rw[List.take_of_length_le (by omega),←htk]at hd10;simp only[↓zp,zw,↓reduceIte,aA,f0,f4,f5,f23,f24,f25,f42,f43,f44,d2,hw1];exact⟨N-(i+1),by omega,i+1,by trivial,by trivial,by trivial,by trivial,by trivial,by trivial,hd10,E210,by omega,rfl⟩
 ·have d1:decide ((i:Int)<(N:Int))=false:=bD (by omega);rw[List.take_of_length_le (by omega),hK]at hd4;have hNp:0<N:=by rw[←hNe];exact hT.pos
  have wN:IntKind.i64.wrap ((N:Int)-1)=((N-1:Nat):Int):=by rw[aU _ (by omega)];omega
  have dN:decide (((N-1:Nat):Int)<0)=false:=bD (by omega);have dD:decide ((gY ns:Int)>200)=false:=bD (by omega);simp only[↓zp,zw,↓reduceIte,aA,g0,g4,g5,g23,g24,g25,d1,wN,dN];refine⟨fun m ρ h'=> ∃i:Nat,ρ 0=.slice (some ⟨b,0,none⟩) N cap∧ρ 5=.slice (some ⟨S,0,none⟩) N N∧ρ 10=.int .i64 ((N-1:Nat):Int)∧ρ 63=.slice (some ⟨b,0,none⟩) N cap∧ρ 64=.int .i64 (N:Int)∧ρ 65=.int .i64 (i:Int)∧Ext [] h4 h'∧i≤N∧m=N-i,N,⟨0,by simp only[↓zp,zw,↓reduceIte,aA,g0],by simp only[↓zp,zw,↓reduceIte,aA,g5],by simp only[↓zp,zw,↓reduceIte,aA],by simp only[↓zp,zw,↓reduceIte,aA,g0],by simp only[↓zp,zw,↓reduceIte,aA],by simp only[↓zp,zw,↓reduceIte,aA];rfl,Ext.refl _ _,by omega,rfl⟩,?_⟩;clear g0 g4 g5 g23 g24 g25 d1;rintro m ρ h5 ⟨i,g0,g5,g10,g63,g64,g65,hE5,hi,hm⟩;by_cases hlt:i<N
  ·have d1:decide ((i:Int)<(N:Int))=true:=bC (by omega);have b1:(0:Int)≤(i:Int)∧(i:Int)<(N:Int):=by omega
   have w1:=bI (a:=i) (by omega);obtain⟨x,hx⟩:∃x,ns[i]? =some x:=⟨_,aS (by omega)⟩;obtain⟨_,_,hk55⟩:=hT.nd hx;obtain⟨b',cap',vk,e2,hn,hrk0,hld0,hc⟩:=(HC h2 (Ext.refl _ _)).at hx;simp only[Value.slice.injEq,Option.some.injEq,Addr.mk.injEq,true_and,and_true]at e2;obtain⟨e3,_,e4⟩:=e2;subst e3;subst e4;obtain⟨ak,ckk,rfl,hkid⟩:=cV hrk0;have hld:=fM (hE4.trans hE5) (by simp) hld0;simp only[↓zp,zw,↓reduceIte,aA,g0,g5,g10,g63,g64,g65,d1,b1,aF,hld];refine jU fun h6 hb6 E6 hs6=> ?_;have c0:bG h6 h5.size 0=some (.int .i64 (x.kind:Int)):=by rw[bE hb6];rfl
   have hsq:bG h6 S (i*1)=some (.bool (K.contains i)):=(hE5.trans E6).cell (by rw[bE hd4,aP,qW hlt]) (by simp);have eN:((i:Int)==((N-1:Nat):Int))=(i==N-1):=cF;have nN:((i:Int) !=((N-1:Nat):Int))=(i !=N-1):=cH;have E56:=hE5.trans E6;by_cases hl:i=N-1
   ·have k55:(x.kind==55)=true:=by
     obtain⟨y,h1,h2⟩:=hT.last;rw[hNe,←hl,hx]at h1;cases h1;simpa using h2
    have e1:(i==N-1)=true:=by simpa using hl
    have e2:(i !=N-1)=false:=by simpa using hl
    have hnc:K.contains i=false:=by
     have hf:=hT.fo;unfold Forest at hf;have:=hf.nodup_iff.2 List.nodup_range;rw[List.singleton_append,List.nodup_cons,hK,hNe,←hl]at this;simpa using this.1
    rw[hnc]at hsq;simp only[↓zp,zw,↓reduceIte,aA,g0,g5,g10,g63,g64,g65,b1,aF,c0,hsq,kq55,k55,eN,nN,e1,e2,bne_self_eq_false,w1];exact⟨N-(i+1),by omega,i+1,by trivial,by trivial,by trivial,by trivial,by trivial,by trivial,E56,by omega,rfl⟩
   ·have k55:(x.kind==55)=false:=by simpa using hk55 (by rw[hNe];exact hl)
    have e1:(i==N-1)=false:=by simpa using hl
    have hnc:K.contains i=true:=by
     rcases hcov2 i hlt with h|h
     ·exact absurd h hl
     ·simpa using h
    rw[hnc]at hsq;simp only[↓zp,zw,↓reduceIte,aA,g0,g5,g10,g63,g64,g65,b1,aF,c0,hsq,kq55,k55,eN,nN,e1,bne_self_eq_false,w1];exact⟨N-(i+1),by omega,i+1,by trivial,by trivial,by trivial,by trivial,by trivial,by trivial,E56,by omega,rfl⟩
  ·have d1:decide ((i:Int)<(N:Int))=false:=bD (by omega);have hD:C aE 14 #[.slice (some ⟨b,0,none⟩) N cap] h5 fun e h'=>e=.returned (.int .i64 (gY ns:Int))∧Ext [] h5 h':=deep_c (HC h5 (hE4.trans hE5)).row hT.pos (by omega) fun x hx=>Nat.le_trans (hkb x hx) (by omega);simp only[↓zp,zw,↓reduceIte,aA,g0,g5,g10,g63,g64,g65,d1];refine bH hD ?_;rintro _ h6 ⟨rfl,E6⟩;simp only[↓zp,zw,↓reduceIte,aA,dD];exact⟨by trivial,(E24.trans hE5).trans E6⟩
end
end
section
theorem enc_table:∀n:Nat,n<128→Utf8.encode (n:Int)=⟨#[UInt8.ofNat n]⟩:=by decide
theorem enc_ascii{c:UInt8}(hc:c.toNat<128):Utf8.encode (c.toNat:Int)=⟨[c].toArray⟩:=by
 have:=enc_table c.toNat hc;rw[this,UInt8.ofNat_toNat]
def vP(c:UInt8):Bool:=(decide (97≤c.toNat)&&decide (c.toNat≤122))||(decide (65≤c.toNat)&&decide (c.toNat≤90))||c==36||c==95
theorem vO:∀n,n<256→vP (UInt8.ofNat n)=cL (UInt8.ofNat n):=by decide
theorem letterA_eq(c:UInt8):vP c=cL c:=by
 have:=vO c.toNat (UInt8.toNat_lt c)
 rwa [UInt8.ofNat_toNat]at this
def gX:List UInt8→List UInt8→List (List UInt8)
 |w,[]=>if w==[]then[]else[w]
 |w,c::s=>if c==32 then(if w==[]then gX [] s else w::gX [] s)else gX (w++[c]) s
section
variable{h:Heap}
theorem tF(c:UInt8):C aE 85 #[.int .u8 (c.toNat:Int)] h (Ret (.bool (cL c)) h):=by
 have e1:((c.toNat:Int)==36)=(c==36):=eA (n:=36) (by decide);have e2:((c.toNat:Int)==95)=(c==95):=eA (n:=95) (by decide);have e3:decide ((c.toNat:Int)≥97)=decide (97≤c.toNat):=by rw[aW];simp;omega
 have e4:decide ((c.toNat:Int)≤122)=decide (c.toNat≤122):=by rw[aW];simp;omega
 have e5:decide ((c.toNat:Int)≥65)=decide (65≤c.toNat):=by rw[aW];simp;omega
 have e6:decide ((c.toNat:Int)≤90)=decide (c.toNat≤90):=by rw[aW];simp;omega
 rw[←letterA_eq];unfold vP;refine C_in Tryz.func85 rfl rfl (by kernel_rfl) (aG rfl) ?_;cases h1:decide (97≤c.toNat)<;>cases h2:decide (c.toNat≤122)<;>cases h3:decide (65≤c.toNat)<;>cases h4:decide (c.toNat≤90)<;>simp only[↓zp,zw,↓reduceIte,aA,e1,e2,e3,e4,e5,e6,h1,h2,h3,h4]<;>first|exact⟨rfl,rfl⟩|skip
 all_goals cases h5:(c==36)<;>simp only[↓zp,zw,↓reduceIte,aA,e1,e2,h5]<;>first|exact⟨rfl,rfl⟩|skip
theorem rmore_c(c:UInt8):C aE 86 #[.int .u8 (c.toNat:Int)] h (Ret (.bool (cL c||dU c)) h):=by
 have e3:decide ((c.toNat:Int)≥48)=decide (48≤c.toNat):=by rw[aW];simp;omega
 have e4:decide ((c.toNat:Int)≤57)=decide (c.toNat≤57):=by rw[aW];simp;omega
 unfold dU;refine C_in Tryz.func86 rfl rfl (by kernel_rfl) (aG rfl) ?_;simp only[↓zp,zw,↓reduceIte,aA];refine bK (tF c) ?_;cases h1:cL c<;>cases h2:decide (48≤c.toNat)<;>simp only[↓zp,zw,↓reduceIte,aA,e3,e4,h1,h2]<;>exact⟨rfl,rfl⟩
theorem among_c{v:Value}{l:List (List UInt8)}(hr:Row h v 9 1 (cI l))(hl:l.length≤1000000)(x:List UInt8):C aE 57 #[v,.string ⟨x.toArray⟩] h (Ret (.bool (l.contains x)) h):=by
 obtain⟨a,n,c,rfl,hn⟩:=hr.shape;rw[cD,aP]at hn;subst hn
 have hcell:∀j (hj:j<l.length),∃b,a=some ⟨b,0,none⟩∧bG h b (j*1)=some (.string ⟨(l[j]'hj).toArray⟩):=fun j hj=>by
  obtain⟨b,n',cap',cs,e,hb,hn',ht,_⟩:=hr.open (by rw[cD];omega);simp only[Value.slice.injEq]at e;obtain⟨rfl,rfl,rfl⟩:=e;refine⟨b,rfl,?_⟩;rw[aP,Row.cell (n:=l.length) (cap:=c) hb ht (by rw[cD];exact hj)];exact fK _ _ hj
 refine C_in Tryz.func57 rfl rfl (by kernel_rfl) (aG rfl) ?_;simp only[↓zp,zw,↓reduceIte,aA];refine⟨fun m ρ h'=> ∃i:Nat,ρ 1=.string ⟨x.toArray⟩∧ρ 7=.slice a l.length c∧ρ 8=.int .i64 ((l.length:Nat):Int)∧ρ 9=.int .i64 (i:Int)∧h'=h∧i≤l.length∧(l.drop i).contains x=l.contains x∧m=l.length-i,l.length,⟨0,by simp only[↓zp,zw,↓reduceIte,aA],by simp only[↓zp,zw,↓reduceIte,aA],by simp only[↓zp,zw,↓reduceIte,aA],by simp only[↓zp,zw,↓reduceIte,aA];rfl,rfl,by omega,rfl,rfl⟩,?_⟩;rintro m ρ h1 ⟨i,g1,g7,g8,g9,hh,hi,hcn,hm⟩;rw[hh];by_cases hlt:i<l.length
 ·have d1:decide ((i:Int)<((l.length:Nat):Int))=true:=bC (by omega);have b1:(0:Int)≤(i:Int)∧(i:Int)<((l.length:Nat):Int):=by omega
  have w1:=bI (a:=i) (by omega);obtain⟨b,rfl,hc⟩:=hcell i hlt;rw[List.drop_eq_getElem_cons hlt]at hcn;generalize l[i]'hlt=y at hc hcn
  cases he:y==x with
  |true=>
   have:y=x:=by simpa using he
   subst this;simp only[↓zp,zw,↓reduceIte,aA,g1,g7,g8,g9,d1,b1,aF,hc,BEq.rfl]
   exact⟨by rw[←hcn];simp,by trivial⟩
  |false=>
   simp only[↓zp,zw,↓reduceIte,aA,g1,g7,g8,g9,d1,b1,aF,hc,he,w1];refine⟨l.length-(i+1),by omega,i+1,by trivial,by trivial,by trivial,by trivial,by trivial,by omega,?_,rfl⟩;rw[←hcn,List.contains_cons];have:(x==y)=false:=by rw[beq_eq_false_iff_ne]at he⊢;exact Ne.symm he
   rw[this,Bool.false_or]
 ·have d1:decide ((i:Int)<((l.length:Nat):Int))=false:=bD (by omega);simp only[↓zp,zw,↓reduceIte,aA,g1,g7,g8,g9,d1];refine⟨?_,by trivial⟩;rw[←hcn,List.drop_eq_nil_of_le (by omega)];rfl
theorem oO:∀(s w:List UInt8),(gX w s).length≤s.length+1
 |[],w=>by unfold gX;split<;>simp
 |c::s,w=>by
  have h1:=oO s [];have h2:=oO s (w++[c]);unfold gX;split
  ·split
   ·simp;omega
   ·simp;omega
  ·simp;omega
theorem list_c(s:List UInt8)(hs:s.length≤1000000)(ha:s.all (fun b=>decide (b.toNat<128))=true):C aE 110 #[.string ⟨s.toArray⟩] h fun e h'=> ∃v,e=.returned v∧Row h' v 9 1 (cI (gX [] s))∧Ext [] h h':=by
 obtain⟨R,hR⟩:∃R,gX [] s=R:=⟨_,rfl⟩;have hRl:R.length≤s.length+1:=by rw[←hR];exact oO _ _
 rw[hR];refine C_in Tryz.func110 rfl rfl (by kernel_rfl) (aG rfl) ?_;simp only[↓zp,zw,↓reduceIte,aA];refine⟨fun m ρ h'=> ∃(i:Nat) (v:Value) (acc:List (List UInt8)) (w:List UInt8),ρ 0=.string ⟨s.toArray⟩∧ρ 3=v∧ρ 4=.string ⟨w.toArray⟩∧ρ 5=.int .i64 (i:Int)∧Row h' v 9 1 (cI acc)∧Ext [] h h'∧(∀b,b∈blks v→h.size≤b)∧i≤s.length+1∧w.length≤i∧((i≤s.length∧acc++gX w (s.drop i)=R)∨(i=s.length+1∧acc=R))∧m=s.length+1-i,s.length+1,⟨0,.slice none 0 0,[],[],by simp only[↓zp,zw,↓reduceIte,aA],by simp only[↓zp,zw,↓reduceIte,aA],by simp only[↓zp,zw,↓reduceIte,aA],by simp only[↓zp,zw,↓reduceIte,aA];rfl,Row.nil,Ext.refl _ _,by simp[blks],by omega,by simp,.inl ⟨by omega,hR⟩,rfl⟩,?_⟩;rintro m ρ h1 ⟨i,v,acc,w,g0,g3,g4,g5,hr,hE,hnew,hi,hw,hst,hm⟩;have dW:decide ((i:Int)≤((s.length:Nat):Int))=decide (i≤s.length):=by rw[aW];simp
 have w1:i≤s.length→IntKind.i64.wrap ((i:Int)+1)=((i+1:Nat):Int):=fun _=>bI (a:=i) (by omega);rcases hst with⟨hi1,hst⟩|⟨hi1,rfl⟩
 ·have d1:decide (i≤s.length)=true:=bC hi1;replace w1:=w1 hi1;have hac:acc.length≤R.length:=by rw[←hst];simp
  rcases Nat.lt_or_ge i s.length with hlt|hge
  ·have d2:decide ((i:Int)<((s.length:Nat):Int))=true:=bC (by omega);have b0:(0:Int)≤(i:Int):=by omega
   rw[List.drop_eq_getElem_cons hlt]at hst;have hca:(s[i]'hlt).toNat<128:=by have:=List.all_eq_true.1 ha _ (List.getElem_mem hlt);simpa using this
   obtain⟨c,hc⟩:∃c,s[i]'hlt=c:=⟨_,rfl⟩;rw[hc]at hst hca
   have eb:((c.toNat:Int) !=32)= !(c==32):=by
    have:((c.toNat:Int)==32)=(c==32):=eA (n:=32) (by decide);show(!((c.toNat:Int)==32))=_;rw[this]
   cases h32:c==32 with
   |false=>
    have hst2:acc++gX (w++[c]) (s.drop (i+1))=R:=by rw[←hst,gX,if_neg (by simp[h32])]
    simp only[↓zp,zw,↓reduceIte,aA,g0,g3,g4,g5,dW,d1,d2,b0,aF,hlt,hc,eb,h32,enc_ascii hca,hO (a:=w) (b:=[c]) (by simp;omega),w1]
    exact⟨s.length+1-(i+1),by omega,i+1,v,acc,w++[c],by trivial,by trivial,by trivial,by trivial,hr,hE,hnew,by omega,by simp;omega,.inl ⟨by omega,hst2⟩,rfl⟩
   |true=>
    cases hwe:w==[]with
    |true=>
     have hst2:acc++gX [] (s.drop (i+1))=R:=by rw[←hst,gX,if_pos h32,if_pos hwe]
     simp only[↓zp,zw,↓reduceIte,aA,g0,g3,g4,g5,dW,d1,d2,b0,aF,hlt,hc,eb,h32,hwe,w1]
     exact⟨s.length+1-(i+1),by omega,i+1,v,acc,[],by trivial,by trivial,by trivial,by trivial,hr,hE,hnew,by omega,by simp,.inl ⟨by omega,hst2⟩,rfl⟩
    |false=>
     have hst2:(acc++[w])++gX [] (s.drop (i+1))=R:=by rw[←hst,gX,if_pos h32,if_neg (by simp[hwe])];simp
     simp only[↓zp,zw,↓reduceIte,aA,g0,g3,g4,g5,dW,d1,d2,b0,aF,hlt,hc,eb,h32,hwe];refine dQ (vals:=cI [w]) (e:=9) Tryz.underlying56 (by kernel_rfl) rfl rfl rfl (by omega) (by omega) fun v6 h6 hr6 hb6 hE6 hs6=> ?_;simp only[↓zp,zw,↓reduceIte,aA,g0,g3,g4,g5]
     refine fX (n:=1) (tx:=56) (e:=9) (sz:=1) (news:=cI [w]) (hr.ext hE6 (by simp)) Tryz.underlying56 (by kernel_rfl) (fun u hu=>by
      obtain⟨n,hn,hs⟩:=hr6.src (P:=aE) (tx:=56) (e':=9) Tryz.underlying56 rfl u hu;have:n=1:=by rw[cD]at hn;simpa using hn
      subst this;exact hs) (by rw[cD,cD];simp;omega) fun v7 h7 hr7 hc7=> ?_
     simp only[↓zp,zw,↓reduceIte,aA,g0,g3,g4,g5,w1];replace hr7:Row h7 v7 9 1 (cI (acc++[w])):=by simpa[cI]using hr7
     have hE7:Ext [] h h7:=by
      rcases hc7 with⟨_,e,_⟩|⟨_,e,_⟩
      ·exact(hE.trans hE6).trans_new e fun y hy=> .inl (hnew y hy)
      ·exact(hE.trans hE6).trans e
     have hnew7:∀b,b∈blks v7→h.size≤b:=by
      rcases hc7 with⟨e,_,_⟩|⟨e,_,_⟩
      ·rw[e];exact hnew
      ·rw[e];intro b hb;simp at hb;have:=(hE.trans hE6).1;omega
     exact⟨s.length+1-(i+1),by omega,i+1,v7,acc++[w],[],by trivial,by trivial,by trivial,by trivial,hr7,hE7,hnew7,by omega,by simp,.inl ⟨by omega,hst2⟩,rfl⟩
  ·have hei:i=s.length:=by omega
   have d2:decide ((i:Int)<((s.length:Nat):Int))=false:=bD (by omega);rw[List.drop_eq_nil_of_le hge]at hst
   cases hwe:w==[]with
   |true=>
    have hst2:acc=R:=by rw[←hst,gX,if_pos hwe];simp
    simp only[↓zp,zw,↓reduceIte,aA,g0,g3,g4,g5,dW,d1,d2,hwe,w1]
    exact⟨s.length+1-(i+1),by omega,i+1,v,acc,[],by trivial,by trivial,by trivial,by trivial,hr,hE,hnew,by omega,by simp,.inr ⟨by omega,hst2⟩,rfl⟩
   |false=>
    have hst2:acc++[w]=R:=by rw[←hst,gX,if_neg (by simp[hwe])]
    simp only[↓zp,zw,↓reduceIte,aA,g0,g3,g4,g5,dW,d1,d2,hwe];refine dQ (vals:=cI [w]) (e:=9) Tryz.underlying56 (by kernel_rfl) rfl rfl rfl (by omega) (by omega) fun v6 h6 hr6 hb6 hE6 hs6=> ?_;simp only[↓zp,zw,↓reduceIte,aA,g0,g3,g4,g5]
    refine fX (n:=1) (tx:=56) (e:=9) (sz:=1) (news:=cI [w]) (hr.ext hE6 (by simp)) Tryz.underlying56 (by kernel_rfl) (fun u hu=>by
     obtain⟨n,hn,hs⟩:=hr6.src (P:=aE) (tx:=56) (e':=9) Tryz.underlying56 rfl u hu;have:n=1:=by rw[cD]at hn;simpa using hn
     subst this;exact hs) (by rw[cD,cD];simp;omega) fun v7 h7 hr7 hc7=> ?_
    simp only[↓zp,zw,↓reduceIte,aA,g0,g3,g4,g5,w1];replace hr7:Row h7 v7 9 1 (cI (acc++[w])):=by simpa[cI]using hr7
    have hE7:Ext [] h h7:=by
     rcases hc7 with⟨_,e,_⟩|⟨_,e,_⟩
     ·exact(hE.trans hE6).trans_new e fun y hy=> .inl (hnew y hy)
     ·exact(hE.trans hE6).trans e
    have hnew7:∀b,b∈blks v7→h.size≤b:=by
     rcases hc7 with⟨e,_,_⟩|⟨e,_,_⟩
     ·rw[e];exact hnew
     ·rw[e];intro b hb;simp at hb;have:=(hE.trans hE6).1;omega
    exact⟨s.length+1-(i+1),by omega,i+1,v7,acc++[w],[],by trivial,by trivial,by trivial,by trivial,hr7,hE7,hnew7,by omega,by simp,.inr ⟨by omega,hst2⟩,rfl⟩
 ·have d1:decide (i≤s.length)=false:=bD (by omega);simp only[↓zp,zw,↓reduceIte,aA,g0,g3,g4,g5,dW,d1];exact⟨v,by trivial,hr,hE⟩
theorem words_c:C aE 87 #[] h fun e h'=> ∃v,e=.returned v∧Row h' v 9 1 (cI wordList)∧Ext [] h h':=by
 refine C_in Tryz.func87 rfl rfl (by kernel_rfl) (aG rfl) ?_;simp only[↓zp,zw,↓reduceIte,aA];refine bH (list_c [98,114,101,97,107,32,99,97,115,101,32,99,97,116,99,104,32,99,108,97,115,115,32,99,111,110,115,116,32,99,111,110,116,105,110,117,101,32,100,101,98,117,103,103,101,114,32,100,101,102,97,117,108,116,32,100,101,108,101,116,101,32,100,111,32,101,108,115,101,32,101,110,117,109,32,101,120,112,111,114,116,32,101,120,116,101,110,100,115,32,102,97,108,115,101,32,102,105,110,97,108,108,121,32,102,111,114,32,102,117,110,99,116,105,111,110,32,105,102,32,105,109,112,111,114,116,32,105,110,32,105,110,115,116,97,110,99,101,111,102,32,110,101,119,32,110,117,108,108,32,114,101,116,117,114,110,32,115,117,112,101,114,32,115,119,105,116,99,104,32,116,104,105,115,32,116,104,114,111,119,32,116,114,117,101,32,116,114,121,32,116,121,112,101,111,102,32,118,97,114,32,118,111,105,100,32,119,104,105,108,101,32,119,105,116,104,32,105,109,112,108,101,109,101,110,116,115,32,105,110,116,101,114,102,97,99,101,32,108,101,116,32,112,97,99,107,97,103,101,32,112,114,105,118,97,116,101,32,112,114,111,116,101,99,116,101,100,32,112,117,98,108,105,99,32,115,116,97,116,105,99,32,121,105,101,108,100] (by decide) (by decide)) ?_;rintro _ h1 ⟨v,rfl,hr,hE⟩;rw[show gX [] ([98,114,101,97,107,32,99,97,115,101,32,99,97,116,99,104,32,99,108,97,115,115,32,99,111,110,115,116,32,99,111,110,116,105,110,117,101,32,100,101,98,117,103,103,101,114,32,100,101,102,97,117,108,116,32,100,101,108,101,116,101,32,100,111,32,101,108,115,101,32,101,110,117,109,32,101,120,112,111,114,116,32,101,120,116,101,110,100,115,32,102,97,108,115,101,32,102,105,110,97,108,108,121,32,102,111,114,32,102,117,110,99,116,105,111,110,32,105,102,32,105,109,112,111,114,116,32,105,110,32,105,110,115,116,97,110,99,101,111,102,32,110,101,119,32,110,117,108,108,32,114,101,116,117,114,110,32,115,117,112,101,114,32,115,119,105,116,99,104,32,116,104,105,115,32,116,104,114,111,119,32,116,114,117,101,32,116,114,121,32,116,121,112,101,111,102,32,118,97,114,32,118,111,105,100,32,119,104,105,108,101,32,119,105,116,104,32,105,109,112,108,101,109,101,110,116,115,32,105,110,116,101,114,102,97,99,101,32,108,101,116,32,112,97,99,107,97,103,101,32,112,114,105,118,97,116,101,32,112,114,111,116,101,99,116,101,100,32,112,117,98,108,105,99,32,115,116,97,116,105,99,32,121,105,101,108,100]:List UInt8)=wordList from by kernel_rfl]at hr;simp only[↓zp,zw,↓reduceIte,aA];exact⟨v,rfl,hr,hE⟩
theorem rword_c(x:List UInt8):C aE 56 #[.string ⟨x.toArray⟩] h fun e h'=>e=.returned (.bool (gN x))∧Ext [] h h':=by
 refine C_in Tryz.func56 rfl rfl (by kernel_rfl) (aG rfl) ?_;simp only[↓zp,zw,↓reduceIte,aA];refine bH words_c ?_;rintro _ h1 ⟨v,rfl,hr,hE⟩;simp only[↓zp,zw,↓reduceIte,aA];refine bK (among_c hr (by decide) x) ?_;simp only[↓zp,zw,↓reduceIte,aA];exact⟨rfl,hE⟩
theorem rname_c(x:List UInt8)(hx:x.length≤1000000):C aE 55 #[.string ⟨x.toArray⟩] h fun e h'=>e=.returned (.bool (fL x))∧Ext [] h h':=by
 refine C_in Tryz.func55 rfl rfl (by kernel_rfl) (aG rfl) ?_
 cases x with
 |nil=>
  simp only[↓zp,zw,↓reduceIte,aA,show(([]:List UInt8)==[])=true from rfl]
  exact⟨by trivial,Ext.refl _ _⟩
 |cons c r=>
  have i0:(0:Int)≤0:=by omega
  have i1:(0:Nat)<r.length+1:=by omega
  simp only[↓zp,zw,↓reduceIte,aA,show((c::r:List UInt8)==[])=false from rfl,i0,i1,aB,aN,List.getElem_cons_zero];refine bK (tF c) ?_
  cases hl:cL c with
  |false=>
   simp only[↓zp,zw,↓reduceIte,aA]
   exact⟨by unfold fL;simp[hl],Ext.refl _ _⟩
  |true=>
   simp only[↓zp,zw,↓reduceIte,aA];refine bH (rword_c (c::r)) ?_;rintro _ h1 ⟨rfl,hE⟩
   cases hw:gN (c::r)with
   |true=>
    simp only[↓zp,zw,↓reduceIte,aA]
    exact⟨by unfold fL;simp[hw],hE⟩
   |false=>
    simp only[↓zp,zw,↓reduceIte,aA];have hnb:fL (c::r)=(c::r).all (fun c=>cL c||dU c):=by unfold fL;simp[hl,hw]
    rw[hnb];generalize hxs:c::r=x at*;clear hnb hxs hl hw i1;refine⟨fun m ρ h'=> ∃i:Nat,ρ 0=.string ⟨x.toArray⟩∧ρ 3=.int .i64 (i:Int)∧h'=h1∧i≤x.length∧(x.drop i).all (fun c=>cL c||dU c)=x.all (fun c=>cL c||dU c)∧m=x.length-i,x.length,⟨0,by simp only[↓zp,zw,↓reduceIte,aA],by simp only[↓zp,zw,↓reduceIte,aA];rfl,rfl,by omega,rfl,rfl⟩,?_⟩;rintro m ρ h2 ⟨i,g0,g3,hh,hi,hall,hm⟩;rw[hh];by_cases hlt:i<x.length
    ·have d1:decide ((i:Int)<((x.length:Nat):Int))=true:=bC (by omega);have b0:(0:Int)≤(i:Int):=by omega
     have w1:=bI (a:=i) (by omega);rw[List.drop_eq_getElem_cons hlt,List.all_cons]at hall;obtain⟨d,hd⟩:∃d,x[i]'hlt=d:=⟨_,rfl⟩;rw[hd]at hall;simp only[↓zp,zw,↓reduceIte,aA,g0,g3,d1,b0,aF,hlt,hd];refine bK (rmore_c d) ?_
     cases hq:(cL d||dU d)with
     |false=>
      simp only[↓zp,zw,↓reduceIte,aA];refine⟨?_,hE⟩
      rw[←hall,hq,Bool.false_and]
     |true=>
      simp only[↓zp,zw,↓reduceIte,aA,g0,g3,w1];exact⟨x.length-(i+1),by omega,i+1,by trivial,by trivial,by trivial,by omega,by rw[←hall,hq,Bool.true_and],rfl⟩
    ·have d1:decide ((i:Int)<((x.length:Nat):Int))=false:=bD (by omega);simp only[↓zp,zw,↓reduceIte,aA,g0,g3,d1];refine⟨?_,hE⟩;rw[←hall,List.drop_eq_nil_of_le (by omega)];rfl
end
end
section
section
variable{h:Heap}{vl:Value}{ns:List Nd}
theorem NS.at(H:NS h vl ns){n:Nat}{x:Nd}(hx:ns[n]? =some x):∃b cap vk,vl=.slice (some ⟨b,0,none⟩) ns.length cap∧n<ns.length∧Row h vk 3 1 (bL x.kids)∧dH h b (n*6) 6=some (bM (x,vk))∧∀j,j<6→bG h b (n*6+j)=(bM (x,vk))[j]?:=by
 obtain⟨hn,rfl⟩:=List.getElem?_eq_some_iff.1 hx;obtain⟨b,cap,e,hnode⟩:=NS.node H (by omega);obtain⟨vk,k1,k2,k3⟩:=hnode n hn;exact⟨b,cap,vk,e,hn,k1,k2,k3⟩
theorem eI(k:Nat):C aE 33 #[.int .i64 (k:Int)] h (Ret (.bool (cG k)) h):=by
 have e1:decide ((k:Int)≥1)=decide (1≤k):=by rw[aW];simp;omega
 have e2:decide ((k:Int)≤9)=decide (k≤9):=by rw[aW];simp;omega
 have e3:decide ((k:Int)≥13)=decide (13≤k):=by rw[aW];simp;omega
 have e4:decide ((k:Int)≤28)=decide (k≤28):=by rw[aW];simp;omega
 unfold cG;refine C_in Tryz.func33 rfl rfl (by kernel_rfl) (aG rfl) ?_;cases h1:decide (1≤k)<;>cases h2:decide (k≤9)<;>cases h3:decide (13≤k)<;>cases h4:decide (k≤28)<;>simp only[↓zp,zw,↓reduceIte,aA,e1,e2,e3,e4,h1,h2,h3,h4]<;>exact⟨rfl,rfl⟩
theorem rstmt_c(k:Nat):C aE 88 #[.int .i64 (k:Int)] h (Ret (.bool (iN k)) h):=by
 have e1:decide ((k:Int)≥32)=decide (32≤k):=by rw[aW];simp;omega
 have e2:decide ((k:Int)≤34)=decide (k≤34):=by rw[aW];simp;omega
 have e3:decide ((k:Int)≥36)=decide (36≤k):=by rw[aW];simp;omega
 have e4:decide ((k:Int)≤49)=decide (k≤49):=by rw[aW];simp;omega
 unfold iN;refine C_in Tryz.func88 rfl rfl (by kernel_rfl) (aG rfl) ?_;cases h1:decide (32≤k)<;>cases h2:decide (k≤34)<;>cases h3:decide (36≤k)<;>cases h4:decide (k≤49)<;>simp only[↓zp,zw,↓reduceIte,aA,e1,e2,e3,e4,kq52,kq53,h1,h2,h3,h4]<;>first|exact⟨rfl,rfl⟩|skip
 all_goals cases h5:(k==52)<;>simp only[↓zp,zw,↓reduceIte,aA,kq52,kq53,h5]<;>first|exact⟨rfl,rfl⟩|(cases h6:(k==53)<;>simp only[↓zp,zw,↓reduceIte,aA,kq52,kq53,h5,h6]<;>exact⟨rfl,rfl⟩)
theorem rtgt_c(k:Nat):C aE 34 #[.int .i64 (k:Int)] h (Ret (.bool (tgtK k)) h):=by
 unfold tgtK;refine C_in Tryz.func34 rfl rfl (by kernel_rfl) (aG rfl) ?_;cases h1:(k==6)<;>cases h2:(k==17)<;>simp only[↓zp,zw,↓reduceIte,aA,kq6,kq17,kq18,h1,h2]<;>exact⟨rfl,rfl⟩
theorem rkey_c(k:Nat):C aE 32 #[.int .i64 (k:Int)] h (Ret (.bool (keyK k)) h):=by
 unfold keyK;refine C_in Tryz.func32 rfl rfl (by kernel_rfl) (aG rfl) ?_;cases h1:(k==2)<;>cases h2:(k==1)<;>simp only[↓zp,zw,↓reduceIte,aA,kq2,kq1,kq56,h1,h2]<;>exact⟨rfl,rfl⟩
theorem iT(H:NS h vl ns){n:Nat}(hb:IsBody ns n):C aE 61 #[vl,.int .i64 (n:Int)] h (Ret (.bool true) h):=by
 induction hb with
 | @base n hk=>
   obtain⟨x,hx,hp⟩:=hk;obtain⟨b,cap,vk,rfl,hn,_,_,hc⟩:=NS.at H hx;have c0:bG h b (n*6)=some (.int .i64 (x.kind:Int)):=hc 0 (by omega);have b1:(0:Int)≤(n:Int)∧(n:Int)<((ns.length:Nat):Int):=by omega
   simp only[mK,Bool.and_eq_true,bne_iff_ne,ne_eq]at hp;obtain⟨⟨⟨⟨p1,p2⟩,p3⟩,p4⟩,p5⟩:=hp;have e52:((x.kind:Int)==52)=false:=by simp;omega
   have e33:((x.kind:Int) !=33)=true:=by simp;omega
   have e34:((x.kind:Int) !=34)=true:=by simp;omega
   have e53:((x.kind:Int) !=53)=true:=by simp;omega
   refine C_in Tryz.func61 rfl rfl (by kernel_rfl) (aG rfl) ?_;simp only[↓zp,zw,↓reduceIte,aA,b1,aF,c0,e52];refine bK (rstmt_c x.kind) ?_;rw[p1];simp only[↓zp,zw,↓reduceIte,aA,e33,e34,e53]
   exact⟨rfl,rfl⟩
 | @label n k x hx hk hy hl hb2 ih=>
   obtain⟨b,cap,vk,rfl,hn,hrk,_,hc⟩:=NS.at H hx;have c0:bG h b (n*6)=some (.int .i64 (x.kind:Int)):=hc 0 (by omega);have b1:(0:Int)≤(n:Int)∧(n:Int)<((ns.length:Nat):Int):=by omega
   have e52:((x.kind:Int)==52)=true:=by rw[hk];rfl
   obtain⟨ak,ckp,rfl,hkid⟩:=cV hrk;have c4:bG h b (n*6+4)=some (.slice ak 1 ckp):=by rw[hc 4 (by omega),hy];rfl
   obtain⟨bk,rfl,hck⟩:=hkid 0 (by rw[hy];simp)
   have hck0:bG h bk 0=some (.int .i64 (k:Int)):=by
    have:x.kids[0]'(by rw[hy];simp)=k:=by simp[hy]
    rw[this]at hck;simpa using hck
   have b2:(0:Int)≤0∧(0:Int)<((1:Nat):Int):=by decide
   have d1:decide ((k:Int)<(n:Int))=true:=bC (by omega);have d2:decide ((k:Int)≥0)=true:=bC (by omega);have e1:(((1:Nat):Int)==1)=true:=by decide
   refine C_in Tryz.func61 rfl rfl (by kernel_rfl) (aG rfl) ?_;simp only[↓zp,zw,↓reduceIte,aA,b1,b2,aF,aN,aQ,c0,c4,e52,hck0,d1,d2,e1];refine bK ih ?_;simp only[↓zp,zw,↓reduceIte,aA];exact⟨rfl,rfl⟩
theorem rops_c(k:Nat)(hk:k=19∨k=20∨k=21∨k=22∨k=26):C aE 58 #[.int .i64 (k:Int)] h (qL (iZ k) h):=by
 have fin:∀{l m:List (List UInt8)} {v:Value} {h':Heap},l=m→Row h' v 9 1 (cI l)→blks v=[h.size]→Ext [] h h'→h'.size=h.size+1→qL m h (.returned v) h':=fun e h1 h2 h3 h4=>⟨_,rfl,e▸h1,h2,h3,h4⟩;rcases hk with rfl|rfl|rfl|rfl|rfl
 ·refine C_in Tryz.func58 rfl rfl (by kernel_rfl) (aG rfl) ?_;simp only[↓zp,zw,↓reduceIte,aA,show(((19:Nat):Int)==19)=true by decide];refine dQ (vals:=cI (iZ 19)) (e:=9) Tryz.underlying56 (by kernel_rfl) rfl (fJ _) (by decide) (by omega) (by omega) fun v h1 hr hb hE hs=> ?_;simp only[↓zp,zw,↓reduceIte,aA];exact fin rfl hr hb hE hs
 ·refine C_in Tryz.func58 rfl rfl (by kernel_rfl) (aG rfl) ?_;simp only[↓zp,zw,↓reduceIte,aA,show(((20:Nat):Int)==19)=false by decide,show(((20:Nat):Int)==20)=true by decide];refine dQ (vals:=cI (iZ 20)) (e:=9) Tryz.underlying56 (by kernel_rfl) rfl (fJ _) (by decide) (by omega) (by omega) fun v h1 hr hb hE hs=> ?_;simp only[↓zp,zw,↓reduceIte,aA];exact fin rfl hr hb hE hs
 ·refine C_in Tryz.func58 rfl rfl (by kernel_rfl) (aG rfl) ?_;simp only[↓zp,zw,↓reduceIte,aA,show(((21:Nat):Int)==19)=false by decide,show(((21:Nat):Int)==20)=false by decide,show(((21:Nat):Int)==21)=true by decide];refine dQ (vals:=cI (iZ 21)) (e:=9) Tryz.underlying56 (by kernel_rfl) rfl (fJ _) (by decide) (by omega) (by omega) fun v h1 hr hb hE hs=> ?_;simp only[↓zp,zw,↓reduceIte,aA];exact fin rfl hr hb hE hs
 ·refine C_in Tryz.func58 rfl rfl (by kernel_rfl) (aG rfl) ?_;simp only[↓zp,zw,↓reduceIte,aA,show(((22:Nat):Int)==19)=false by decide,show(((22:Nat):Int)==20)=false by decide,show(((22:Nat):Int)==21)=false by decide,show(((22:Nat):Int)==22)=true by decide];refine dQ (vals:=cI (iZ 22)) (e:=9) Tryz.underlying56 (by kernel_rfl) rfl (fJ _) (by decide) (by omega) (by omega) fun v h1 hr hb hE hs=> ?_;simp only[↓zp,zw,↓reduceIte,aA];exact fin rfl hr hb hE hs
 ·refine C_in Tryz.func58 rfl rfl (by kernel_rfl) (aG rfl) ?_;simp only[↓zp,zw,↓reduceIte,aA,show(((26:Nat):Int)==19)=false by decide,show(((26:Nat):Int)==20)=false by decide,show(((26:Nat):Int)==21)=false by decide,show(((26:Nat):Int)==22)=false by decide,show(((26:Nat):Int)==26)=true by decide];refine dQ (vals:=cI (iZ 26)) (e:=9) Tryz.underlying56 (by kernel_rfl) rfl (fJ _) (by decide) (by omega) (by omega) fun v h1 hr hb hE hs=> ?_;simp only[↓zp,zw,↓reduceIte,aA];exact fin rfl hr hb hE hs
end
end
section
theorem nm_kinds:∀k,k<57→eG k=rA→k=6∨k=31∨k=35∨k=52∨k=53:=by decide
theorem yC:∀k,k<57→eG k=nD→k=13∨k=44∨k=45∨k=48:=by decide
theorem wd_kinds:∀k,k<57→eG k=qZ→k=17:=by decide
theorem el_kinds0:∀k,k<57→(eG k==rA||eG k==nD||eG k==qZ||eG k==sOp|| ![6,31,35,52,53,13,44,45,48,17,19,20,21,22,26].contains k)=true:=by decide
theorem el_kinds(k:Nat)(hk:k<57)(h1:eG k≠rA)(h2:eG k≠nD)(h3:eG k≠qZ)(h4:eG k≠sOp):[6,31,35,52,53,13,44,45,48,17,19,20,21,22,26].contains k=false:=by
 have:=el_kinds0 k hk;rw[beq_eq_false_iff_ne.2 h1,beq_eq_false_iff_ne.2 h2,beq_eq_false_iff_ne.2 h3,beq_eq_false_iff_ne.2 h4]at this;simpa using this
theorem kq44{k:Nat}:((k:Int)==44)=(k==44):=by rw[aW];simp;omega
theorem kq45{k:Nat}:((k:Int)==45)=(k==45):=by rw[aW];simp;omega
theorem kq19{k:Nat}:((k:Int)==19)=(k==19):=by rw[aW];simp;omega
theorem kq20{k:Nat}:((k:Int)==20)=(k==20):=by rw[aW];simp;omega
theorem kq21{k:Nat}:((k:Int)==21)=(k==21):=by rw[aW];simp;omega
theorem kq22{k:Nat}:((k:Int)==22)=(k==22):=by rw[aW];simp;omega
theorem kq26{k:Nat}:((k:Int)==26)=(k==26):=by rw[aW];simp;omega
theorem f0n:binv .neq (.float .f64 0) (.float .f64 0)=some (.bool false):=by kernel_rfl
theorem f0e:binv .eql (.float .f64 0) (.float .f64 0)=some (.bool true):=by kernel_rfl
theorem ord_self{x:Nat}(hx:cC x):binv .eql (.float .f64 x) (.float .f64 x)=some (.bool true):=by
 have:Ieee.double.order x x=some .eq:=by
  unfold Ieee.Format.order;unfold cC at hx;rcases mJ hx with⟨m,e,hm,_⟩|hm
  ·rw[hm];simp only[Ieee.Datum.order];rw[Option.some_inj];show compareOfLessAndEq _ _=Ordering.eq;unfold compareOfLessAndEq;rw[if_neg (by omega),if_pos rfl]
  ·rw[hm];rfl
 show(if FloatKind.f64=FloatKind.f64 then some (Value.bool (FloatKind.f64.format.order x x==some .eq))else none)=_;rw[if_pos rfl,show FloatKind.f64.format.order x x=Ieee.double.order x x from rfl,this];rfl
section
variable{h:Heap}
theorem rbad_c:C aE 109 #[.float .f64 0] h (Ret (.bool false) h):=by
 refine C_in Tryz.func109 rfl rfl (by kernel_rfl) (aG rfl) ?_;simp only[↓zp,zw,↓reduceIte,aA,f0n];exact⟨rfl,rfl⟩
theorem rsame_c:C aE 28 #[.float .f64 0,.float .f64 0] h (Ret (.bool true) h):=by
 have h84:C aE 84 #[.float .f64 0,.float .f64 0,.int .i64 2] h (Ret (.bool true) h):=by
  refine C_in Tryz.func84 rfl rfl (by kernel_rfl) (aG rfl) ?_;simp only[↓zp,zw,↓reduceIte,aA,Int.reduceBEq];refine bK rbad_c ?_;simp only[↓zp,zw,↓reduceIte,aA,f0e];refine bK (mA (Nat.zero_le _)) ?_;simp only[↓zp,zw,↓reduceIte,aA];refine bK (mA (Nat.zero_le _)) ?_;simp only[↓zp,zw,↓reduceIte,aA,BEq.rfl];exact⟨rfl,rfl⟩
 have h54:C aE 54 #[.float .f64 0,.float .f64 0] h (Ret (.bool true) h):=by
  refine C_in Tryz.func54 rfl rfl (by kernel_rfl) (aG rfl) ?_;simp only[↓zp,zw,↓reduceIte,aA];refine bK h84 ?_;simp only[↓zp,zw,↓reduceIte,aA];exact⟨rfl,rfl⟩
 refine C_in Tryz.func28 rfl rfl (by kernel_rfl) (aG rfl) ?_;simp only[↓zp,zw,↓reduceIte,aA];refine bK h54 ?_;simp only[↓zp,zw,↓reduceIte,aA];exact⟨rfl,rfl⟩
theorem rtext_c{x:Nd}{a:Option Addr}{n c:Nat}(hk:x.kind≤56)(ht:oL x.kind x.text=true)(hlen:x.text.length≤1000000):
 C aE 29 #[.agg (bM (x,.slice a n c)).toArray] h fun e h'=>e=.returned (.bool true)∧Ext [] h h':=by
 have hE1:Ext [] h (h.push (.cells (bM (x,.slice a n c)).toArray 35)):=Ext.push _ _ _;have hb1:Blk (h.push (.cells (bM (x,.slice a n c)).toArray 35)) h.size (bM (x,.slice a n c)) 35:=Blk.new;refine C_in Tryz.func29 rfl rfl (by kernel_rfl) (aG rfl) ?_;simp only[↓zp,zw,↓reduceIte,aA];rw[show(bM (x,.slice a n c))[1]? =some (.string ⟨x.text.toArray⟩)from rfl];generalize h.push (.cells (bM (x,.slice a n c)).toArray 35)=h1 at hE1 hb1⊢;simp only[↓zp,zw,↓reduceIte,aA];refine bH (rname_c x.text hlen) ?_;rintro _ h2 ⟨rfl,hE2⟩;have hb2:=hb1.ext hE2 (by simp);have E2:=hE1.trans hE2;have c0:bG h2 h.size 0=some (.int .i64 (x.kind:Int)):=by rw[bE hb2];rfl
 have c1:bG h2 h.size 1=some (.string ⟨x.text.toArray⟩):=by rw[bE hb2];rfl
 unfold oL at ht;by_cases q1:eG x.kind=rA
 ·rw[if_pos q1]at ht;rcases nm_kinds _ (by omega) q1 with e|e|e|e|e<;>rw[e]at c0<;>simp only[↓zp,zw,↓reduceIte,aA,c0,kq6,kq31,kq35,kq52,kq53,kq13,kq44,kq45,kq48,kq17,kq19,kq20,kq21,kq22,kq26,aY,ht]<;>exact⟨by trivial,E2⟩
 rw[if_neg q1]at ht;by_cases q2:eG x.kind=nD
 ·rw[if_pos q2]at ht
  have ht2:(x.text==[])=true∨fL x.text=true:=by
   rcases Bool.or_eq_true_iff.1 ht with h|h
   ·exact .inl (by rw[List.isEmpty_iff.1 h];rfl)
   ·exact .inr h
  rcases ht2 with h3|h3
  ·rcases yC _ (by omega) q2 with e|e|e|e<;>rw[e]at c0<;>simp only[↓zp,zw,↓reduceIte,aA,c0,c1,kq6,kq31,kq35,kq52,kq53,kq13,kq44,kq45,kq48,kq17,kq19,kq20,kq21,kq22,kq26,aY,h3]<;>exact⟨by trivial,E2⟩
  ·cases h4:(x.text==[])<;>rcases yC _ (by omega) q2 with e|e|e|e<;>rw[e]at c0<;>simp only[↓zp,zw,↓reduceIte,aA,c0,c1,kq6,kq31,kq35,kq52,kq53,kq13,kq44,kq45,kq48,kq17,kq19,kq20,kq21,kq22,kq26,aY,h3,h4]<;>exact⟨by trivial,E2⟩
 rw[if_neg q2]at ht;by_cases q3:eG x.kind=qZ
 ·rw[if_pos q3]at ht;rw[wd_kinds _ (by omega) q3]at c0
  cases h4:fL x.text with
  |true=>
   simp only[↓zp,zw,↓reduceIte,aA,c0,c1,kq6,kq31,kq35,kq52,kq53,kq13,kq44,kq45,kq48,kq17,kq19,kq20,kq21,kq22,kq26,aY]
   exact⟨by trivial,E2⟩
  |false=>
   rw[h4,Bool.false_or]at ht;simp only[↓zp,zw,↓reduceIte,aA,c0,c1,kq6,kq31,kq35,kq52,kq53,kq13,kq44,kq45,kq48,kq17,kq19,kq20,kq21,kq22,kq26,aY];refine bH (rword_c x.text) ?_;rintro _ h3 ⟨rfl,hE3⟩;rw[ht];simp only[↓zp,zw,↓reduceIte,aA];exact⟨by trivial,E2.trans hE3⟩
 rw[if_neg q3]at ht;by_cases q4:eG x.kind=sOp
 ·rw[if_pos q4]at ht;have hops:=yA _ (by omega) q4;have hR:=fun h'=>rops_c (h:=h') x.kind hops;rcases hops with e|e|e|e|e<;>rw[e]at c0 ht hR<;>simp only[↓zp,zw,↓reduceIte,aA,c0,kq6,kq31,kq35,kq52,kq53,kq13,kq44,kq45,kq48,kq17,kq19,kq20,kq21,kq22,kq26,aY]
  all_goals
   refine dL [(0,true),(1,true),(3,true),(4,true),(2,false),(5,false),(6,true)] (fun h'=>Ext [] h2 h') (by kernel_rfl) (by kernel_rfl) (by kernel_rfl) rfl (Ext.refl _ _) ?_
   iterate 4 refine Wo_t rfl rfl _ (.inl fun h' hS'=>by simp only[rdOp,↓zp,zw,↓reduceIte,aA,aH,aJ,aK,hS'.cell c0 (by simp),hS'.cell c1 (by simp)];rfl) ?_
   refine Wo_f rfl rfl ?_;simp only[↓zp,zw,↓reduceIte,aA];refine bH (hR _) ?_;rintro _ h3 ⟨v,rfl,k1,k2,k3,k4⟩;simp only[↓zp,zw,↓reduceIte,aA];refine⟨k3,?_⟩;refine Wo_f rfl rfl ?_;simp only[↓zp,zw,↓reduceIte,aA];refine bK (among_c k1 (tI _) x.text) ?_;rw[ht];simp only[↓zp,zw,↓reduceIte,aA];refine⟨k3,?_⟩;refine Wo_t rfl rfl _ (.inl fun h' hS'=>by simp only[rdOp,↓zp,zw,↓reduceIte,aA,aH,aJ,aK];rfl) ?_;refine kU ?_;simp only[↓zp,zw,↓reduceIte,aA];exact⟨by trivial,E2.trans k3⟩
 rw[if_neg q4]at ht;have hel:=el_kinds _ (by omega) q1 q2 q3 q4;simp only[List.contains_cons,List.contains_nil,Bool.or_false,Bool.or_eq_false_iff]at hel;obtain⟨n1,n2,n3,n4,n5,n6,n7,n8,n9,n10,n11,n12,n13,n14,n15⟩:=hel;have he:(x.text==[])=true:=by rw[List.isEmpty_iff.1 ht];rfl
 simp only[↓zp,zw,↓reduceIte,aA,c0,c1,kq6,kq31,kq35,kq52,kq53,kq13,kq44,kq45,kq48,kq17,kq19,kq20,kq21,kq22,kq26,n1,n2,n3,n4,n5,n6,n7,n8,n9,n10,n11,n12,n13,n14,n15,he];exact⟨by trivial,E2⟩
end
end
section
def kd1(ns:List Nd)(k:Nat):Nat:=((ns[k]?).map (·.kind)).getD 0
def kd(ns:List Nd)(l:List Nat):List Nat:=l.map (kd1 ns)
theorem oP{ns:List Nd}{k:Nat}{y:Nd}(h:ns[k]? =some y):kd1 ns k=y.kind:=by unfold kd1;rw[h];rfl
theorem hasK.kd{ns:List Nd}{k:Nat}{p:Nat→Bool}(h:hasK ns k p):p (kd1 ns k)=true:=by obtain⟨y,h1,h2⟩:=h;rw[oP h1];exact h2
theorem dK(ns:List Nd)(l:List Nat):(kd ns l).length=l.length:=by simp[kd]
section
variable{h:Heap}{vl:Value}{ns:List Nd}
theorem kinds_c(H:NS h vl ns){x:Nd}{a:Option Addr}{c:Nat}(hr:Row h (.slice a x.kids.length c) 3 1 (bL x.kids))(hl:∀k,k∈x.kids→k<ns.length)(hfew:x.kids.length≤1000000):C aE 30 #[vl,.agg (bM (x,.slice a x.kids.length c)).toArray] h fun e h'=> ∃v,e=.returned v∧Row h' v 3 1 (bL (kd ns x.kids))∧Ext [] h h':=by
 obtain⟨a',c',e,hkid⟩:=cV hr;cases e;have hE1:Ext [] h (h.push (.cells (bM (x,.slice a x.kids.length c)).toArray 35)):=Ext.push _ _ _;have hb1:Blk (h.push (.cells (bM (x,.slice a x.kids.length c)).toArray 35)) h.size (bM (x,.slice a x.kids.length c)) 35:=Blk.new;refine C_in Tryz.func30 rfl rfl (by kernel_rfl) (aG rfl) ?_;simp only[↓zp,zw,↓reduceIte,aA];rw[show(bM (x,.slice a x.kids.length c))[4]? =some (.slice a x.kids.length c)from rfl];generalize h.push (.cells (bM (x,.slice a x.kids.length c)).toArray 35)=h1 at hE1 hb1⊢;simp only[↓zp,zw,↓reduceIte,aA];refine⟨fun m ρ h'=> ∃(i:Nat) (v:Value),ρ 0=vl∧ρ 5=v∧ρ 9=.slice a x.kids.length c∧ρ 10=.int .i64 ((x.kids.length:Nat):Int)∧ρ 11=.int .i64 (i:Int)∧Row h' v 3 1 (bL ((kd ns x.kids).take i))∧Ext [] h h'∧i≤x.kids.length∧(∀b,b∈blks v→h.size≤b)∧m=x.kids.length-i,x.kids.length,⟨0,.slice none 0 0,by simp only[↓zp,zw,↓reduceIte,aA],by simp only[↓zp,zw,↓reduceIte,aA],by simp only[↓zp,zw,↓reduceIte,aA],by simp only[↓zp,zw,↓reduceIte,aA],by simp only[↓zp,zw,↓reduceIte,aA];rfl,Row.nil,hE1,by omega,by simp[blks],rfl⟩,?_⟩;rintro m ρ h2 ⟨i,v,g0,g5,g9,g10,g11,hrv,hE,hi,hnew,hm⟩;by_cases hlt:i<x.kids.length
 ·have d1:decide ((i:Int)<((x.kids.length:Nat):Int))=true:=bC (by omega);have b4:(0:Int)≤(i:Int)∧(i:Int)<((x.kids.length:Nat):Int):=by omega
  have w1:=bI (a:=i) (by omega);obtain⟨bz,rfl,hcz1⟩:=hkid i (by omega);have hqn:=hl _ (List.getElem_mem hlt)
  have hkt:(kd ns x.kids).take (i+1)=(kd ns x.kids).take i++[kd1 ns (x.kids[i]'hlt)]:=by
   rw[List.take_add_one];unfold kd;rw[List.getElem?_map,aS hlt];rfl
  generalize x.kids[i]'(by omega)=q at hcz1 hqn hkt;have hcq:bG h2 bz (i*1)=some (.int .i64 (q:Int)):=hE.cell hcz1 (by simp);obtain⟨w,hw⟩:∃w,ns[q]? =some w:=⟨_,aS hqn⟩;rw[oP hw]at hkt;obtain⟨bn,cap',vw,rfl,hq,_,_,hcw⟩:=NS.at (H.ext0 hE) hw;have w0:bG h2 bn (q*6)=some (.int .i64 (w.kind:Int)):=hcw 0 (by omega);have b5:(0:Int)≤(q:Int)∧(q:Int)<((ns.length:Nat):Int):=by omega
  simp only[↓zp,zw,↓reduceIte,aA,g0,g5,g9,g10,g11,d1,b4,b5,aF,hcq,w0];refine dQ (vals:=bL [w.kind]) (e:=3) Tryz.underlying33 (by kernel_rfl) rfl rfl rfl (by omega) (by omega) fun v6 h6 hr6 hb6 hE6 hs6=> ?_;simp only[↓zp,zw,↓reduceIte,aA,g0,g5,g9,g10,g11]
  refine fX (n:=1) (tx:=33) (e:=3) (sz:=1) (news:=bL [w.kind]) (hrv.ext hE6 (by simp)) Tryz.underlying33 (by kernel_rfl) (fun u hu=>by
   obtain⟨n,hn,hs⟩:=hr6.src (P:=aE) (tx:=33) (e':=3) Tryz.underlying33 rfl u hu;have:n=1:=by simpa[bL]using hn
   subst this;exact hs) (by rw[cW,cW,List.length_take];simp;omega) fun v7 h7 hr7 hc7=> ?_
  simp only[↓zp,zw,↓reduceIte,aA,g0,g5,g9,g10,g11,w1];have et:bL ((kd ns x.kids).take i)++bL [w.kind]=bL ((kd ns x.kids).take (i+1)):=by rw[hkt];simp[bL]
  rw[et]at hr7
  have hE7:Ext [] h h7:=by
   rcases hc7 with⟨_,e,_⟩|⟨_,e,_⟩
   ·exact(hE.trans hE6).trans_new e fun y hy=> .inl (hnew y hy)
   ·exact(hE.trans hE6).trans e
  refine⟨x.kids.length-(i+1),by omega,i+1,v7,by trivial,by trivial,by trivial,by trivial,by trivial,hr7,hE7,by omega,?_,rfl⟩;rcases hc7 with⟨e,_,_⟩|⟨e,_,_⟩
  ·rw[e];exact hnew
  ·rw[e];intro b hb;simp at hb;have:=(hE.trans hE6).1;omega
 ·have d1:decide ((i:Int)<((x.kids.length:Nat):Int))=false:=bD (by omega);have et:(kd ns x.kids).take i=kd ns x.kids:=List.take_of_length_le (by rw[dK];omega);rw[et]at hrv;simp only[↓zp,zw,↓reduceIte,aA,g0,g5,g9,g10,g11,d1];exact⟨v,rfl,hrv,hE⟩
theorem lN{v:Value}{ks:List Nat}(hr:Row h v 3 1 (bL ks))(hfew:ks.length≤1000000){at0:Nat}(ha:at0≤1000000){sp:Bool}(hk:∀j (hj:j<ks.length),at0≤j→(cG (ks[j]'hj)||(sp&&(ks[j]'hj)==29))=true):
 C aE 31 #[v,.int .i64 (at0:Int),.bool sp] h (Ret (.bool true) h):=by
 obtain⟨a,c,rfl,hkid⟩:=cV hr;refine C_in Tryz.func31 rfl rfl (by kernel_rfl) (aG rfl) ?_;simp only[↓zp,zw,↓reduceIte,aA];refine⟨fun m ρ h'=> ∃i:Nat,ρ 0=.slice a ks.length c∧ρ 2=.bool sp∧ρ 7=.int .i64 (i:Int)∧h'=h∧at0≤i∧i≤2000000∧m=2000000-i,2000000-at0,⟨at0,by simp only[↓zp,zw,↓reduceIte,aA],by simp only[↓zp,zw,↓reduceIte,aA],by simp only[↓zp,zw,↓reduceIte,aA],rfl,by omega,by omega,rfl⟩,?_⟩;rintro m ρ h1 ⟨i,g0,g2,g7,hh,hi,hi2,hm⟩;rw[hh];by_cases hlt:i<ks.length
 ·have d1:decide ((i:Int)<((ks.length:Nat):Int))=true:=bC (by omega);have b1:(0:Int)≤(i:Int)∧(i:Int)<((ks.length:Nat):Int):=by omega
  have w1:=bI (a:=i) (by omega);obtain⟨b,rfl,hc⟩:=hkid i hlt;have hk1:=hk i hlt hi;generalize ks[i]'hlt=k at hc hk1;simp only[↓zp,zw,↓reduceIte,aA,g0,g2,g7,d1,b1,aF,hc];refine bK (eI k) ?_
  cases he:cG k with
  |true=>
   simp only[↓zp,zw,↓reduceIte,aA,g0,g2,g7,w1]
   exact⟨2000000-(i+1),by omega,i+1,by trivial,by trivial,by trivial,by trivial,by omega,by omega,rfl⟩
  |false=>
   rw[he,Bool.false_or,Bool.and_eq_true]at hk1;obtain⟨rfl,h29⟩:=hk1;simp only[↓zp,zw,↓reduceIte,aA,g0,g2,g7,w1,b1,aF,hc,kq29,h29];exact⟨2000000-(i+1),by omega,i+1,by trivial,by trivial,by trivial,by trivial,by omega,by omega,rfl⟩
 ·have d1:decide ((i:Int)<((ks.length:Nat):Int))=false:=bD (by omega);simp only[↓zp,zw,↓reduceIte,aA,g0,g2,g7,d1];exact⟨by trivial,by trivial⟩
theorem stmts_c{v:Value}{ks:List Nat}(hr:Row h v 3 1 (bL ks))(hfew:ks.length≤1000000){at0:Nat}(ha:at0≤1000000)(hk:∀j (hj:j<ks.length),at0≤j→iN (ks[j]'hj)=true):
 C aE 60 #[v,.int .i64 (at0:Int)] h (Ret (.bool true) h):=by
 obtain⟨a,c,rfl,hkid⟩:=cV hr;refine C_in Tryz.func60 rfl rfl (by kernel_rfl) (aG rfl) ?_;simp only[↓zp,zw,↓reduceIte,aA];refine⟨fun m ρ h'=> ∃i:Nat,ρ 0=.slice a ks.length c∧ρ 5=.int .i64 (i:Int)∧h'=h∧at0≤i∧i≤2000000∧m=2000000-i,2000000-at0,⟨at0,by simp only[↓zp,zw,↓reduceIte,aA],by simp only[↓zp,zw,↓reduceIte,aA],rfl,by omega,by omega,rfl⟩,?_⟩;rintro m ρ h1 ⟨i,g0,g5,hh,hi,hi2,hm⟩;rw[hh];by_cases hlt:i<ks.length
 ·have d1:decide ((i:Int)<((ks.length:Nat):Int))=true:=bC (by omega);have b1:(0:Int)≤(i:Int)∧(i:Int)<((ks.length:Nat):Int):=by omega
  have w1:=bI (a:=i) (by omega);obtain⟨b,rfl,hc⟩:=hkid i hlt;have hk1:=hk i hlt hi;generalize ks[i]'hlt=k at hc hk1;simp only[↓zp,zw,↓reduceIte,aA,g0,g5,d1,b1,aF,hc];refine bK (rstmt_c k) ?_;rw[hk1];simp only[↓zp,zw,↓reduceIte,aA,g0,g5,w1];exact⟨2000000-(i+1),by omega,i+1,by trivial,by trivial,by trivial,by omega,by omega,rfl⟩
 ·have d1:decide ((i:Int)<((ks.length:Nat):Int))=false:=bD (by omega);simp only[↓zp,zw,↓reduceIte,aA,g0,g5,d1];exact⟨by trivial,by trivial⟩
theorem one_c(H:NS h vl ns){n:Nat}(hp:oneInit ns n):C aE 63 #[vl,.int .i64 (n:Int)] h fun e h'=>e=.returned (.bool true)∧Ext [] h h':=by
 obtain⟨x,i,z,hx,_,hk1,hz,hk2⟩:=hp;obtain⟨b,cap,vk,rfl,hn,hrk,hld,_⟩:=NS.at H hx;obtain⟨b',cap',vz,e2,hi,hrz,_,hcz⟩:=NS.at H hz;simp only[Value.slice.injEq,Option.some.injEq,Addr.mk.injEq,true_and,and_true]at e2;obtain⟨rfl,rfl⟩:=e2;have b1:(0:Int)≤(n:Int)∧(n:Int)<((ns.length:Nat):Int):=by omega
 have b2:(0:Int)≤(i:Int)∧(i:Int)<((ns.length:Nat):Int):=by omega
 obtain⟨ak,ckp,rfl,hkid⟩:=cV hrk;refine C_in Tryz.func63 rfl rfl (by kernel_rfl) (aG rfl) ?_;simp only[↓zp,zw,↓reduceIte,aA,b1,aF,hld];refine jU fun h4 hb4 E4 hs4=> ?_;have c4:bG h4 h.size 4=some (.slice ak x.kids.length ckp):=by rw[bE hb4];rfl
 have z4:bG h4 b (i*6+4)=some vz:=E4.cell (hcz 4 (by omega)) (by simp);obtain⟨bk,rfl,hck⟩:=hkid 0 (by rw[hk1];simp)
 have hck0:bG h4 bk 0=some (.int .i64 (i:Int)):=by
  have:x.kids[0]'(by rw[hk1];simp)=i:=by simp[hk1]
  rw[this]at hck;exact E4.cell (by simpa using hck) (by simp)
 rw[show x.kids.length=1 by rw[hk1];rfl]at c4;obtain⟨az,cz,rfl,_⟩:=cV hrz;rw[show z.kids.length=0 by rw[hk2];rfl]at z4;have b3:(0:Int)≤0∧(0:Int)<((1:Nat):Int):=by decide
 simp only[↓zp,zw,↓reduceIte,aA,c4,z4,hck0,b2,b3,show(((1:Nat):Int)==1)=true by decide,show(((0:Nat):Int)==0)=true by decide,aF,aN,aQ];exact⟨by trivial,E4⟩
theorem zQ{v:Value}{ks:List Nat}(hr:Row h v 3 1 (bL ks))(hfew:ks.length≤1000000)(ho:ks.length%2=1)(hk:∀j (hj:j<ks.length),(j%2=0→ks[j]'hj=2)∧(j%2=1→cG (ks[j]'hj)=true)):
 C aE 59 #[v] h (Ret (.bool true) h):=by
 obtain⟨a,c,rfl,hkid⟩:=cV hr;have t1:(((ks.length%2:Nat):Int)==0)=false:=by rw[ho];rfl
 refine C_in Tryz.func59 rfl rfl (by kernel_rfl) (aG rfl) ?_;simp only[↓zp,zw,↓reduceIte,aA,tm2,t1];refine⟨fun m ρ h'=> ∃i:Nat,ρ 9=.slice a ks.length c∧ρ 10=.int .i64 ((ks.length:Nat):Int)∧ρ 11=.int .i64 (i:Int)∧h'=h∧i≤ks.length∧m=ks.length-i,ks.length,⟨0,by simp only[↓zp,zw,↓reduceIte,aA],by simp only[↓zp,zw,↓reduceIte,aA],by simp only[↓zp,zw,↓reduceIte,aA];rfl,rfl,by omega,rfl⟩,?_⟩;rintro m ρ h1 ⟨i,g9,g10,g11,hh,hi,hm⟩;rw[hh];by_cases hlt:i<ks.length
 ·have d1:decide ((i:Int)<((ks.length:Nat):Int))=true:=bC (by omega);have b1:(0:Int)≤(i:Int)∧(i:Int)<((ks.length:Nat):Int):=by omega
  have w1:=bI (a:=i) (by omega);obtain⟨b,rfl,hc⟩:=hkid i hlt;obtain⟨hk0,hk1⟩:=hk i hlt;generalize ks[i]'hlt=k at hc hk0 hk1;rcases Nat.mod_two_eq_zero_or_one i with hp|hp
  ·have t0:(((i%2:Nat):Int)==0)=true:=by rw[hp];rfl
   have t1:(((i%2:Nat):Int)==1)=false:=by rw[hp];rfl
   rw[hk0 hp]at hc;simp only[↓zp,zw,↓reduceIte,aA,g9,g10,g11,d1,b1,aF,hc,tm2,t0,t1,show(((2:Nat):Int) !=2)=false by decide,w1];exact⟨ks.length-(i+1),by omega,i+1,by trivial,by trivial,by trivial,by trivial,by omega,rfl⟩
  ·have t0:(((i%2:Nat):Int)==0)=false:=by rw[hp];rfl
   have t1:(((i%2:Nat):Int)==1)=true:=by rw[hp];rfl
   simp only[↓zp,zw,↓reduceIte,aA,g9,g10,g11,d1,b1,aF,hc,tm2,t0,t1];refine bK (eI k) ?_;rw[hk1 hp];simp only[↓zp,zw,↓reduceIte,aA,g9,g10,g11,w1];exact⟨ks.length-(i+1),by omega,i+1,by trivial,by trivial,by trivial,by trivial,by omega,rfl⟩
 ·have d1:decide ((i:Int)<((ks.length:Nat):Int))=false:=bD (by omega);simp only[↓zp,zw,↓reduceIte,aA,g9,g10,g11,d1];exact⟨by trivial,by trivial⟩
end
end
section
theorem knq33{k:Nat}:((k:Int) !=33)= !(k==33):=by rw[show((k:Int) !=33)= !((k:Int)==33)from rfl,kq33]
theorem knq34{k:Nat}:((k:Int) !=34)= !(k==34):=by rw[show((k:Int) !=34)= !((k:Int)==34)from rfl,kq34]
theorem knq54{k:Nat}:((k:Int) !=54)= !(k==54):=by rw[show((k:Int) !=54)= !((k:Int)==54)from rfl,kq54]
theorem knq50{k:Nat}:((k:Int) !=50)= !(k==50):=by rw[show((k:Int) !=50)= !((k:Int)==50)from rfl,kq50]
theorem knq2{k:Nat}:((k:Int) !=2)= !(k==2):=by rw[show((k:Int) !=2)= !((k:Int)==2)from rfl,kq2]
section
variable{h:Heap}{vl:Value}{ns:List Nd}
theorem clauses_c{v:Value}{e:Nat}{ks:List Nat}(hr:Row h v 3 1 (bL (e::ks)))(hfew:ks.length≤1000000)(he:cG e=true)(hk:∀k,k∈ks→nB k=true)(h1:ks.countP (·==51)≤1):
 C aE 64 #[v] h (Ret (.bool true) h):=by
 obtain⟨a,c,rfl,hkd⟩:=Kd.of hr;obtain⟨b,o,rfl,hc0,a',hsl,hkd'⟩:=hkd.cons;have d0:decide (((ks.length+1:Nat):Int)<1)=false:=bD (by omega);have b0:(0:Int)≤0∧(0:Int)<((ks.length+1:Nat):Int):=by omega
 refine C_in Tryz.func64 rfl rfl (by kernel_rfl) (aG rfl) ?_;simp only[↓zp,zw,↓reduceIte,aA,aB,d0,b0,aN,aQ,hc0];refine bK (eI e) ?_;rw[he];simp only[↓zp,zw,↓reduceIte,aA,aB,hsl];refine⟨fun m ρ h'=> ∃i:Nat,ρ 3=.int .i64 (((ks.take i).countP (·==51):Nat):Int)∧ρ 17=.slice a' ks.length (c-1)∧ρ 18=.int .i64 ((ks.length:Nat):Int)∧ρ 19=.int .i64 (i:Int)∧h'=h∧i≤ks.length∧m=ks.length-i,ks.length,⟨0,by simp only[↓zp,zw,↓reduceIte,aA];rfl,by simp only[↓zp,zw,↓reduceIte,aA],by simp only[↓zp,zw,↓reduceIte,aA],by simp only[↓zp,zw,↓reduceIte,aA];rfl,rfl,by omega,rfl⟩,?_⟩;rintro m ρ h2 ⟨i,g3,g17,g18,g19,hh,hi,hm⟩;rw[hh];by_cases hlt:i<ks.length
 ·have d1:decide ((i:Int)<((ks.length:Nat):Int))=true:=bC (by omega);have b1:(0:Int)≤(i:Int)∧(i:Int)<((ks.length:Nat):Int):=by omega
  have w1:=bI (a:=i) (by omega);obtain⟨_,hkd2⟩:=hkd';rcases hkd2 with rfl|⟨b2,o2,rfl,hcell⟩
  ·simp at hlt
  have hc:=hcell i hlt;have htk:ks.take (i+1)=ks.take i++[ks[i]'hlt]:=by rw[List.take_add_one,aS hlt];rfl
  have hk1:=hk _ (List.getElem_mem hlt);generalize ks[i]'hlt=k at hc htk hk1;rw[show o2+i=o2+i*1 by omega]at hc;have hle:(ks.take i).countP (·==51)≤ks.length:=Nat.le_trans List.countP_le_length (by rw[List.length_take];omega);have w2:=bI (a:=(ks.take i).countP (·==51)) (by omega)
  cases h51:k==51 with
  |true=>
   have e51:(ks.take (i+1)).countP (·==51)=(ks.take i).countP (·==51)+1:=by rw[htk,List.countP_append,List.countP_singleton,if_pos h51]
   rw[←e51]at w2;simp only[↓zp,zw,↓reduceIte,aA,g3,g17,g18,g19,d1,b1,aF,hc,kq51,h51,w1,w2]
   exact⟨ks.length-(i+1),by omega,i+1,by trivial,by trivial,by trivial,by trivial,by trivial,by omega,rfl⟩
  |false=>
   have e51:(ks.take (i+1)).countP (·==51)=(ks.take i).countP (·==51):=by rw[htk,List.countP_append,List.countP_singleton,if_neg (by rw[h51];simp)];rfl
   have h50:(k==50)=true:=by
    unfold nB at hk1;rw[h51,Bool.or_false]at hk1;exact hk1
   simp only[↓zp,zw,↓reduceIte,aA,g3,g17,g18,g19,d1,b1,aF,hc,kq51,h51,knq50,h50,w1];exact⟨ks.length-(i+1),by omega,i+1,by rw[e51],by trivial,by trivial,by trivial,by trivial,by omega,rfl⟩
 ·have d1:decide ((i:Int)<((ks.length:Nat):Int))=false:=bD (by omega);rw[List.take_of_length_le (by omega)]at g3;have d2:decide (((ks.countP (·==51):Nat):Int)≤1)=true:=bC (by omega);simp only[↓zp,zw,↓reduceIte,aA,g3,g17,g18,g19,d1,d2];exact⟨by trivial,by trivial⟩
theorem parts_c (H:NS h vl ns) {x:Nd} {a:Option Addr} {c:Nat} {f m n b:Nat} (hx:x.kids=[f,m,n,b]) (hr:Row h (.slice a 4 c) 3 1 (bL x.kids)) (hb:IsBody ns b)
 {v:Value} {kf km kn kb:Nat} (hv:Row h v 3 1 (bL [kf,km,kn,kb])) (hf:(fN kf||midK kf)=true) (hm:midK km=true) (hn:midK kn=true):
 C aE 62 #[vl,.agg (bM (x,.slice a 4 c)).toArray,v] h fun e h'=>e=.returned (.bool true)∧Ext [] h h':=by
 obtain⟨av,cv,rfl,hcv⟩:=cV hv;obtain⟨bv,rfl,v0⟩:=hcv 0 (by simp);obtain⟨_,e,v1⟩:=hcv 1 (by simp);simp only[Option.some.injEq,Addr.mk.injEq,and_true]at e;subst e;obtain⟨_,e,v2⟩:=hcv 2 (by simp);simp only[Option.some.injEq,Addr.mk.injEq,and_true]at e;subst e;clear hcv;obtain⟨a',c',e,hck⟩:=cV hr;simp only[Value.slice.injEq]at e;obtain⟨rfl,_,rfl⟩:=e;obtain⟨bk,rfl,k3⟩:=hck 3 (by rw[hx];simp)
 have k3':bG h bk 3=some (.int .i64 (b:Int)):=by
  have:x.kids[3]'(by rw[hx];simp)=b:=by simp[hx]
  rw[this]at k3;exact k3
 replace v0:bG h bv 0=some (.int .i64 (kf:Int)):=v0;replace v1:bG h bv 1=some (.int .i64 (km:Int)):=v1;replace v2:bG h bv 2=some (.int .i64 (kn:Int)):=v2;have hE1:Ext [] h (h.push (.cells (bM (x,.slice (some ⟨bk,0,none⟩) 4 c)).toArray 35)):=Ext.push _ _ _;have hb1:Blk (h.push (.cells (bM (x,.slice (some ⟨bk,0,none⟩) 4 c)).toArray 35)) h.size (bM (x,.slice (some ⟨bk,0,none⟩) 4 c)) 35:=Blk.new;have e4:(((4:Nat):Int) !=4)=false:=by decide
 have q0:(0:Int)≤0∧(0:Int)<((4:Nat):Int):=by decide
 have q1:(0:Int)≤1∧(1:Int)<((4:Nat):Int):=by decide
 have q2:(0:Int)≤2∧(2:Int)<((4:Nat):Int):=by decide
 have q3:(0:Int)≤3∧(3:Int)<((4:Nat):Int):=by decide
 have t2:(2:Int).toNat=2:=rfl;have t3:(3:Int).toNat=3:=rfl;refine C_in Tryz.func62 rfl rfl (by kernel_rfl) (aG rfl) ?_;simp only[↓zp,zw,↓reduceIte,aA,aB,aD,e4];rw[show(bM (x,.slice (some ⟨bk,0,none⟩) 4 c))[4]? =some (.slice (some ⟨bk,0,none⟩) 4 c)from rfl];generalize h.push (.cells (bM (x,.slice (some ⟨bk,0,none⟩) 4 c)).toArray 35)=h1 at hE1 hb1⊢;replace k3':=hE1.cell k3' (by simp);replace v0:=hE1.cell v0 (by simp);replace v1:=hE1.cell v1 (by simp);replace v2:=hE1.cell v2 (by simp);simp only[↓zp,zw,↓reduceIte,aA,q3,t3,aP,k3'];refine bK (iT (H.ext0 hE1) hb) ?_
 have hq:((kf==33)=true)∨((kf==33)=false∧((kf==34)=true∨((kf==34)=false∧((kf==54)=true∨((kf==54)=false∧cG kf=true))))):=by
  unfold fN midK at hf;cases h1:kf==33<;>cases h2:kf==34<;>cases h3:kf==54<;>simp[h1,h2,h3]at hf⊢ <;>exact hf
 have hq1:((km==54)=true)∨((km==54)=false∧cG km=true):=by
  unfold midK at hm;cases h3:km==54<;>simp[h3]at hm⊢ <;>exact hm
 have hq2:((kn==54)=true)∨((kn==54)=false∧cG kn=true):=by
  unfold midK at hn;cases h3:kn==54<;>simp[h3]at hn⊢ <;>exact hn
 rcases hq with p1|⟨p1,p2|⟨p2,p3|⟨p3,p4⟩⟩⟩
 case' inr.inr.inr=>
  simp only[↓zp,zw,↓reduceIte,aA,aB,aD,q0,aN,aQ,v0,knq33,knq34,knq54,p1,p2,p3];refine bK (eI kf) ?_;rw[p4];simp only[↓zp,zw,↓reduceIte,aA,aB,aD,q1,aX,aP,v1,kq54]
 case' inr.inr.inl=>simp only[↓zp,zw,↓reduceIte,aA,aB,aD,q0,q1,aN,aX,aQ,aP,v0,v1,knq33,knq34,knq54,kq54,p1,p2,p3]
 case' inr.inl=>simp only[↓zp,zw,↓reduceIte,aA,aB,aD,q0,q1,aN,aX,aQ,aP,v0,v1,knq33,knq34,kq54,p1,p2]
 case' inl=>simp only[↓zp,zw,↓reduceIte,aA,aB,aD,q0,q1,aN,aX,aQ,aP,v0,v1,knq33,kq54,p1]
 all_goals
  rcases hq1 with r1|⟨r1,r2⟩
  case' inr=>
   simp only[↓zp,zw,↓reduceIte,aA,r1,aB,aD,q1,aX,aP,v1];refine bK (eI km) ?_;rw[r2]
 all_goals
  rcases hq2 with u1|⟨u1,u2⟩
  case' inr=>
   simp only[↓zp,zw,↓reduceIte,aA,‹(km==54)=_›,aB,aD,q2,t2,aP,v2,kq54,u1];refine bK (eI kn) ?_;rw[u2]
 all_goals
  simp only[↓zp,zw,↓reduceIte,aA,‹(km==54)=_›,aB,aD,q2,t2,aP,v2,kq54,u1];exact⟨by trivial,hE1⟩
theorem rfields_c{src:List UInt8}{ns':List Nd}{x:Nd}{a:Option Addr}{n c:Nat}(hg:nK src ns' x):
 C aE 15 #[.agg (bM (x,.slice a n c)).toArray] h fun e h'=>e=.returned (.bool true)∧Ext [] h h':=by
 obtain⟨htx,hk1,hk56⟩:=hg.shape.txt;have htl:=hg.shape.tlen;have hstr:=hg.str;have hnum:=hg.num;have hE1:Ext [] h (h.push (.cells (bM (x,.slice a n c)).toArray 35)):=Ext.push _ _ _;have hb1:Blk (h.push (.cells (bM (x,.slice a n c)).toArray 35)) h.size (bM (x,.slice a n c)) 35:=Blk.new
 have hev:(((x.str.length%2:Nat):Int)==1)=false:=by
  have:x.str.length%2=0:=by rcases hstr with⟨_,h⟩|⟨_,h⟩<;>simp[h]
  rw[this];rfl
 have d3:decide ((x.pos:Int)<0)=false:=bD (by omega);refine C_in Tryz.func15 rfl rfl (by kernel_rfl) (aG rfl) ?_;simp only[↓zp,zw,↓reduceIte,aA];rw[show(bM (x,.slice a n c))[0]? =some (.int .i64 (x.kind:Int))from rfl];generalize h.push (.cells (bM (x,.slice a n c)).toArray 35)=h1 at hE1 hb1⊢;have c0:bG h1 h.size 0=some (.int .i64 (x.kind:Int)):=by rw[bE hb1];rfl
 have c1:bG h1 h.size 1=some (.string ⟨x.text.toArray⟩):=by rw[bE hb1];rfl
 have c2:bG h1 h.size 2=some (.string ⟨x.str.toArray⟩):=by rw[bE hb1];rfl
 have c3:bG h1 h.size 3=some (.float .f64 x.num):=by rw[bE hb1];rfl
 have c5:bG h1 h.size 5=some (.int .i64 (x.pos:Int)):=by rw[bE hb1];rfl
 have hld:dH h1 h.size 0 6=some (bM (x,.slice a n c)):=bQ hb1 (cU _);have fin:∀(h2:Heap),Ext [] h1 h2→C aE 29 #[.agg (bM (x,.slice a n c)).toArray] h2 fun e h'=>e=.returned (.bool true)∧Ext [] h2 h':=fun h2 _=>rtext_c hk56 htx htl;have one:x.kind≠1→x.num=0:=fun hne=>by rcases hnum with⟨n1,_⟩|⟨_,n2⟩;exact absurd n1 hne;exact n2
 by_cases k1:x.kind=1
 ·have hs0:x.str=[]:=by rcases hstr with⟨k2,_⟩|⟨_,h⟩;omega;exact h
  have es:(x.str==[])=true:=by rw[hs0];rfl
  have n2:cC x.num:=by rcases hnum with⟨_,n2⟩|⟨n1,_⟩;exact n2;exact absurd k1 n1
  have ht:(x.text==[])=true:=by
   have:oL 1 x.text=true:=by rw[←k1];exact htx
   have:x.text.isEmpty=true:=this;rw[List.isEmpty_iff.1 this];rfl
  have hge:binv .geq (.float .f64 x.num) (.float .f64 0)=some (.bool true):=by show some (Value.bool _)=_;rw[ord_ge n2]
  simp only[↓zp,zw,↓reduceIte,aA,knq2,show(x.kind==2)=false by rw[k1];rfl,c2,es,c5,d3,tm2,hev,c0,kq1,show(x.kind==1)=true by rw[k1];rfl,c3,ord_self n2,hge];refine bK (mA n2) ?_;simp only[↓zp,zw,↓reduceIte,aA,c1,ht];exact⟨by trivial,hE1⟩
 ·have n2:=one k1;rw[n2]at c3;have e1:(x.kind==1)=false:=by simpa using k1
  cases e2:x.kind==2 with
  |true=>
   simp only[↓zp,zw,↓reduceIte,aA,knq2,e2,c5,d3,c2,tm2,hev,c0,kq1,e1,c3];refine bK rsame_c ?_;simp only[↓zp,zw,↓reduceIte,aA,hld];refine bH (fin h1 (Ext.refl _ _)) ?_;rintro _ h3 ⟨rfl,hE3⟩;simp only[↓zp,zw,↓reduceIte,aA]
   exact⟨by trivial,hE1.trans hE3⟩
  |false=>
   have es:(x.str==[])=true:=by
    rcases hstr with⟨k2,_⟩|⟨_,h⟩
    ·rw[k2]at e2;cases e2
    ·rw[h];rfl
   simp only[↓zp,zw,↓reduceIte,aA,knq2,e2,c5,d3,c2,es,tm2,hev,c0,kq1,e1,c3];refine bK rsame_c ?_;simp only[↓zp,zw,↓reduceIte,aA,hld];refine bH (fin h1 (Ext.refl _ _)) ?_;rintro _ h3 ⟨rfl,hE3⟩;simp only[↓zp,zw,↓reduceIte,aA];exact⟨by trivial,hE1.trans hE3⟩
end
end
section
theorem kqs{k:Nat}:((k:Int)==0)=(k==0)∧((k:Int)==1)=(k==1)∧((k:Int)==2)=(k==2)∧((k:Int)==3)=(k==3)∧((k:Int)==4)=(k==4)∧((k:Int)==5)=(k==5)∧((k:Int)==6)=(k==6)∧((k:Int)==7)=(k==7)∧((k:Int)==8)=(k==8)∧((k:Int)==9)=(k==9)∧((k:Int)==10)=(k==10)∧((k:Int)==11)=(k==11)∧((k:Int)==12)=(k==12)∧((k:Int)==13)=(k==13)∧((k:Int)==14)=(k==14)∧((k:Int)==15)=(k==15)∧((k:Int)==16)=(k==16)∧((k:Int)==17)=(k==17)∧((k:Int)==18)=(k==18)∧((k:Int)==19)=(k==19)∧((k:Int)==20)=(k==20)∧((k:Int)==21)=(k==21)∧((k:Int)==22)=(k==22)∧((k:Int)==23)=(k==23)∧((k:Int)==24)=(k==24)∧((k:Int)==25)=(k==25)∧((k:Int)==26)=(k==26)∧((k:Int)==27)=(k==27)∧((k:Int)==28)=(k==28)∧((k:Int)==29)=(k==29)∧((k:Int)==30)=(k==30)∧((k:Int)==31)=(k==31)∧((k:Int)==32)=(k==32)∧((k:Int)==33)=(k==33)∧((k:Int)==34)=(k==34)∧((k:Int)==35)=(k==35)∧((k:Int)==36)=(k==36)∧((k:Int)==37)=(k==37)∧((k:Int)==38)=(k==38)∧((k:Int)==39)=(k==39)∧((k:Int)==40)=(k==40)∧((k:Int)==41)=(k==41)∧((k:Int)==42)=(k==42)∧((k:Int)==43)=(k==43)∧((k:Int)==44)=(k==44)∧((k:Int)==45)=(k==45)∧((k:Int)==46)=(k==46)∧((k:Int)==47)=(k==47)∧((k:Int)==48)=(k==48)∧((k:Int)==49)=(k==49)∧((k:Int)==50)=(k==50)∧((k:Int)==51)=(k==51)∧((k:Int)==52)=(k==52)∧((k:Int)==53)=(k==53)∧((k:Int)==54)=(k==54)∧((k:Int)==55)=(k==55)∧((k:Int)==56)=(k==56)∧((k:Int)==57)=(k==57):=⟨cF (b:=0),cF (b:=1),cF (b:=2),cF (b:=3),cF (b:=4),cF (b:=5),cF (b:=6),cF (b:=7),cF (b:=8),cF (b:=9),cF (b:=10),cF (b:=11),cF (b:=12),cF (b:=13),cF (b:=14),cF (b:=15),cF (b:=16),cF (b:=17),cF (b:=18),cF (b:=19),cF (b:=20),cF (b:=21),cF (b:=22),cF (b:=23),cF (b:=24),cF (b:=25),cF (b:=26),cF (b:=27),cF (b:=28),cF (b:=29),cF (b:=30),cF (b:=31),cF (b:=32),cF (b:=33),cF (b:=34),cF (b:=35),cF (b:=36),cF (b:=37),cF (b:=38),cF (b:=39),cF (b:=40),cF (b:=41),cF (b:=42),cF (b:=43),cF (b:=44),cF (b:=45),cF (b:=46),cF (b:=47),cF (b:=48),cF (b:=49),cF (b:=50),cF (b:=51),cF (b:=52),cF (b:=53),cF (b:=54),cF (b:=55),cF (b:=56),cF (b:=57)⟩
theorem knqs{k:Nat}:((k:Int) !=0)= !(k==0)∧((k:Int) !=1)= !(k==1)∧((k:Int) !=2)= !(k==2)∧((k:Int) !=3)= !(k==3)∧((k:Int) !=4)= !(k==4)∧((k:Int) !=5)= !(k==5)∧((k:Int) !=6)= !(k==6)∧((k:Int) !=7)= !(k==7)∧((k:Int) !=8)= !(k==8)∧((k:Int) !=9)= !(k==9)∧((k:Int) !=10)= !(k==10)∧((k:Int) !=11)= !(k==11)∧((k:Int) !=12)= !(k==12)∧((k:Int) !=13)= !(k==13)∧((k:Int) !=14)= !(k==14)∧((k:Int) !=15)= !(k==15)∧((k:Int) !=16)= !(k==16)∧((k:Int) !=17)= !(k==17)∧((k:Int) !=18)= !(k==18)∧((k:Int) !=19)= !(k==19)∧((k:Int) !=20)= !(k==20)∧((k:Int) !=21)= !(k==21)∧((k:Int) !=22)= !(k==22)∧((k:Int) !=23)= !(k==23)∧((k:Int) !=24)= !(k==24)∧((k:Int) !=25)= !(k==25)∧((k:Int) !=26)= !(k==26)∧((k:Int) !=27)= !(k==27)∧((k:Int) !=28)= !(k==28)∧((k:Int) !=29)= !(k==29)∧((k:Int) !=30)= !(k==30)∧((k:Int) !=31)= !(k==31)∧((k:Int) !=32)= !(k==32)∧((k:Int) !=33)= !(k==33)∧((k:Int) !=34)= !(k==34)∧((k:Int) !=35)= !(k==35)∧((k:Int) !=36)= !(k==36)∧((k:Int) !=37)= !(k==37)∧((k:Int) !=38)= !(k==38)∧((k:Int) !=39)= !(k==39)∧((k:Int) !=40)= !(k==40)∧((k:Int) !=41)= !(k==41)∧((k:Int) !=42)= !(k==42)∧((k:Int) !=43)= !(k==43)∧((k:Int) !=44)= !(k==44)∧((k:Int) !=45)= !(k==45)∧((k:Int) !=46)= !(k==46)∧((k:Int) !=47)= !(k==47)∧((k:Int) !=48)= !(k==48)∧((k:Int) !=49)= !(k==49)∧((k:Int) !=50)= !(k==50)∧((k:Int) !=51)= !(k==51)∧((k:Int) !=52)= !(k==52)∧((k:Int) !=53)= !(k==53)∧((k:Int) !=54)= !(k==54)∧((k:Int) !=55)= !(k==55)∧((k:Int) !=56)= !(k==56)∧((k:Int) !=57)= !(k==57):=⟨cH (b:=0),cH (b:=1),cH (b:=2),cH (b:=3),cH (b:=4),cH (b:=5),cH (b:=6),cH (b:=7),cH (b:=8),cH (b:=9),cH (b:=10),cH (b:=11),cH (b:=12),cH (b:=13),cH (b:=14),cH (b:=15),cH (b:=16),cH (b:=17),cH (b:=18),cH (b:=19),cH (b:=20),cH (b:=21),cH (b:=22),cH (b:=23),cH (b:=24),cH (b:=25),cH (b:=26),cH (b:=27),cH (b:=28),cH (b:=29),cH (b:=30),cH (b:=31),cH (b:=32),cH (b:=33),cH (b:=34),cH (b:=35),cH (b:=36),cH (b:=37),cH (b:=38),cH (b:=39),cH (b:=40),cH (b:=41),cH (b:=42),cH (b:=43),cH (b:=44),cH (b:=45),cH (b:=46),cH (b:=47),cH (b:=48),cH (b:=49),cH (b:=50),cH (b:=51),cH (b:=52),cH (b:=53),cH (b:=54),cH (b:=55),cH (b:=56),cH (b:=57)⟩
theorem bW:(2:Int).toNat=2:=rfl
theorem bV:(3:Int).toNat=3:=rfl
theorem cJ{h:Heap}{v:Value}{ks:List Nat}{m:Nat}(hr:Row h v 3 1 (bL ks))(hm:ks.length=m)(hp:0<m):∃b c,v=.slice (some ⟨b,0,none⟩) m c∧∀j (hj:j<ks.length),bG h b j=some (.int .i64 ((ks[j]'hj:Nat):Int)):=by
 obtain⟨a,c,rfl,hk⟩:=cV hr;obtain⟨b,rfl,_⟩:=hk 0 (by omega);refine⟨b,c,by rw[hm],fun j hj=> ?_⟩;obtain⟨b',e,h1⟩:=hk j hj;cases e;rw[aP]at h1;exact h1
def moreK(k:Nat):Bool:=[28,30,32,51,55,33,34,35,46,38,39,40,41,42,43,48,49,50,52].contains k
theorem kd_get{ns:List Nd}{l:List Nat}{j:Nat}(hj:j<(kd ns l).length):(kd ns l)[j]'hj=kd1 ns (l[j]'(by rw[dK]at hj;exact hj)):=by simp[kd]
theorem allK.kd{ns:List Nd}{l:List Nat}{p:Nat→Bool}(h:allK ns l p):∀k,k∈kd ns l→p k=true:=by
 intro k hk;obtain⟨n,hn,rfl⟩:=List.mem_map.1 hk;exact(h n hn).kd
theorem tl_all{e:Nat}{l:List Nat}{p:Nat→Bool}(h:∀k,k∈l→p k=true):∀j (hj:j<(e::l).length),1≤j→p ((e::l)[j]'hj)=true
 |0,_,h0=>by omega
 |j+1,hj,_=>h _ (List.getElem_mem (l:=l) (by simpa using hj))
section
variable{h:Heap}{vl:Value}{ns:List Nd}
theorem more_c(H:NS h vl ns){n:Nat}{x:Nd}(hx:ns[n]? =some x){v:Value}(hv:Row h v 3 1 (bL (kd ns x.kids)))(hS:Shape ns x.kind x.text x.kids)(hm:moreK x.kind=true)(hfew:x.kids.length≤1000000):
 C aE 35 #[vl,.int .i64 (n:Int),v] h fun e h'=>e=.returned (.bool true)∧Ext [] h h':=by
 obtain⟨b,cap,vk,rfl,hn,hrk,hld,_⟩:=NS.at H hx;obtain⟨ak,ck,rfl,_⟩:=cV hrk;have b1:(0:Int)≤(n:Int)∧(n:Int)<((ns.length:Nat):Int):=by omega
 obtain⟨av,cv0,e0,_⟩:=cV hv;have hlen:lenv aE #[33] #[v]=some (.int .i64 ((x.kids.length:Nat):Int)):=by rw[e0,dK];simp[lenv,Tryz.underlying33]
 refine C_in Tryz.func35 rfl rfl (by kernel_rfl) (aG rfl) ?_;simp only[↓zp,zw,↓reduceIte,aA,b1,aF,hld];refine jU fun h4 hb4 E4 hs4=> ?_;have c0:bG h4 h.size 0=some (.int .i64 (x.kind:Int)):=by rw[bE hb4];rfl
 have c1:bG h4 h.size 1=some (.string ⟨x.text.toArray⟩):=by rw[bE hb4];rfl
 have c4:bG h4 h.size 4=some (.slice ak x.kids.length ck):=by rw[bE hb4];rfl
 have hld4:dH h4 h.size 0 6=some (bM (x,.slice ak x.kids.length ck)):=bQ hb4 (cU _);have hv4:=hv.ext E4 (by simp);have hrk4:=hrk.ext E4 (by simp);have H4:=H.ext0 E4;clear hb4 hs4 hv hrk hld b1 H;obtain⟨k,hk⟩:∃k,x.kind=k:=⟨_,rfl⟩;obtain⟨t,ht⟩:∃t,x.text=t:=⟨_,rfl⟩;obtain⟨l,hl⟩:∃l,x.kids=l:=⟨_,rfl⟩;rw[hl]at c4 hld4 hv4 hrk4 hfew e0;rw[hk]at c0 hm;rw[ht]at c1;rw[hk,ht,hl]at hS;subst e0;rw[dK]at hv4⊢;clear hlen
 cases hS with
 |template h=>
  have hq:∀j (hj:j<(kd ns l).length),(j%2=0→(kd ns l)[j]'hj=2)∧(j%2=1→cG ((kd ns l)[j]'hj)=true):=fun j hj=>by
   obtain⟨y,h1,h2,h3⟩:=h.at.2 j (by rw[dK]at hj;exact hj);rw[kd_get,oP h1];exact⟨h2,h3⟩
  simp only[↓zp,zw,↓reduceIte,aA,c0,kqs,aY];refine bK (zQ hv4 (by rw[dK];exact hfew) (by rw[dK];exact h.at.1) hq) ?_;simp only[↓zp,zw,↓reduceIte,aA]
  exact⟨by trivial,E4⟩
 |stmts hkk hls=>
  rcases hkk with rfl|rfl|rfl
  all_goals
   simp only[↓zp,zw,↓reduceIte,aA,c0,kqs,aY];refine bK (stmts_c (at0:=0) hv4 (by rw[dK];exact hfew) (by omega) fun j hj _=>hls.kd _ (List.getElem_mem hj)) ?_;simp only[↓zp,zw,↓reduceIte,aA]
   exact⟨by trivial,E4⟩
 |init hx' hl'=>
  have hq:∀j (hj:j<(kd ns l).length),0≤j→(cG ((kd ns l)[j]'hj)||(false&&((kd ns l)[j]'hj)==29))=true:=fun j hj _=>by
   have:allK ns l cG:=by
    rcases hl' with rfl|⟨e,rfl,h⟩
    ·exact allK.nil
    ·exact .cons h .nil
   rw[this.kd _ (List.getElem_mem hj)];rfl
  have hle:decide ((l.length:Int)≤1)=true:=by rcases hl' with rfl|⟨e,rfl,h⟩<;>rfl
  simp only[↓zp,zw,↓reduceIte,aA,c0,kqs,aY,hle];refine bK (lN (at0:=0) (sp:=false) hv4 (by rw[dK];exact hfew) (by omega) hq) ?_;simp only[↓zp,zw,↓reduceIte,aA]
  exact⟨by trivial,E4⟩
 |ret hl'=>
  have hq:∀j (hj:j<(kd ns l).length),0≤j→(cG ((kd ns l)[j]'hj)||(false&&((kd ns l)[j]'hj)==29))=true:=fun j hj _=>by
   have:allK ns l cG:=by
    rcases hl' with rfl|⟨e,rfl,h⟩
    ·exact allK.nil
    ·exact .cons h .nil
   rw[this.kd _ (List.getElem_mem hj)];rfl
  have hle:decide ((l.length:Int)≤1)=true:=by rcases hl' with rfl|⟨e,rfl,h⟩<;>rfl
  simp only[↓zp,zw,↓reduceIte,aA,c0,kqs,aY,hle];refine bK (lN (at0:=0) (sp:=false) hv4 (by rw[dK];exact hfew) (by omega) hq) ?_;simp only[↓zp,zw,↓reduceIte,aA]
  exact⟨by trivial,E4⟩
 | @params l' r hl' hr=>
   have hq:∀j (hj:j<(kd ns (l'++r)).length),((kd ns (l'++r))[j]'hj==6)=true∨(((kd ns (l'++r))[j]'hj==6)=false∧((kd ns (l'++r))[j]'hj==31)=true∧j=(l'++r).length-1):=by
    intro j hj;rw[kd_get];rw[dK]at hj;rcases Nat.lt_or_ge j l'.length with h1|h1
    ·rw[List.getElem_append_left h1];have:=(hl' _ (List.getElem_mem h1)).kd;exact .inl this
    ·rcases hr with rfl|⟨a,rfl,ha⟩
     ·simp at hj;omega
     ·rw[List.getElem_append_right h1];have ej:j=l'.length:=by simp at hj;omega
      subst ej;have:=ha.kd;simp only[beq_iff_eq]at this;simp[this]
   generalize l'++r=L at*;simp only[↓zp,zw,↓reduceIte,aA,c0,kqs,aY];refine⟨fun m ρ h'=> ∃i:Nat,ρ 8=.int .i64 ((L.length:Nat):Int)∧ρ 28=.slice av L.length cv0∧ρ 29=.int .i64 ((L.length:Nat):Int)∧ρ 30=.int .i64 (i:Int)∧h'=h4∧i≤L.length∧m=L.length-i,L.length,⟨0,by simp only[↓zp,zw,↓reduceIte,aA],by simp only[↓zp,zw,↓reduceIte,aA],by simp only[↓zp,zw,↓reduceIte,aA],by simp only[↓zp,zw,↓reduceIte,aA];rfl,rfl,by omega,rfl⟩,?_⟩;rintro m ρ h5 ⟨i,g8,g28,g29,g30,hh,hi,hmm⟩;rw[hh];by_cases hlt:i<L.length
   ·have d1:decide ((i:Int)<((L.length:Nat):Int))=true:=bC (by omega);have b1:(0:Int)≤(i:Int)∧(i:Int)<((L.length:Nat):Int):=by omega
    have w1:=bI (a:=i) (by omega);have wS:IntKind.i64.wrap (((L.length:Nat):Int)-1)=((L.length-1:Nat):Int):=by rw[aU _ (by omega)];omega
    obtain⟨_,cc,ee,hcell⟩:=cJ (m:=L.length) hv4 (dK _ _) (by omega);cases ee;have hc:=hcell i (by rw[dK];exact hlt);have hqi:=hq i (by rw[dK];exact hlt);generalize(kd ns L)[i]'(by rw[dK];exact hlt)=q at hc hqi;rcases hqi with h6|⟨h6,h31,hlast⟩
    ·simp only[↓zp,zw,↓reduceIte,aA,g8,g28,g29,g30,d1,b1,aF,aP,hc,knqs,h6,w1];exact⟨L.length-(i+1),by omega,i+1,by trivial,by trivial,by trivial,by trivial,by trivial,by omega,rfl⟩
    ·have eS:((i:Int)==((L.length-1:Nat):Int))=true:=by rw[hlast];exact BEq.rfl
     simp only[↓zp,zw,↓reduceIte,aA,g8,g28,g29,g30,d1,b1,aF,aP,hc,knqs,kqs,h6,h31,wS,eS,w1];exact⟨L.length-(i+1),by omega,i+1,by trivial,by trivial,by trivial,by trivial,by trivial,by omega,rfl⟩
   ·have d1:decide ((i:Int)<((L.length:Nat):Int))=false:=bD (by omega);simp only[↓zp,zw,↓reduceIte,aA,g8,g28,g29,g30,d1]
    exact⟨by trivial,E4⟩
 | @decl _ a0 l' hkk hls=>
   have hkk2:k=33∨k=34:=by simpa[fN]using hkk
   have hq:∀q,q∈kd ns (a0::l')→(q==35)=true:=hls.kd;have hge:decide (((a0::l').length:Int)≥1)=true:=bC (by simp;omega);generalize a0::l'=L at*;rcases hkk2 with rfl|rfl
   all_goals
    simp only[↓zp,zw,↓reduceIte,aA,c0,kqs,aY];refine⟨fun m ρ h'=> ∃i:Nat,ρ 8=.int .i64 ((L.length:Nat):Int)∧ρ 58=.slice av L.length cv0∧ρ 59=.int .i64 ((L.length:Nat):Int)∧ρ 60=.int .i64 (i:Int)∧h'=h4∧i≤L.length∧m=L.length-i,L.length,⟨0,by simp only[↓zp,zw,↓reduceIte,aA],by simp only[↓zp,zw,↓reduceIte,aA],by simp only[↓zp,zw,↓reduceIte,aA],by simp only[↓zp,zw,↓reduceIte,aA];rfl,rfl,by omega,rfl⟩,?_⟩;rintro m ρ h5 ⟨i,g8,g58,g59,g60,hh,hi,hmm⟩;rw[hh];by_cases hlt:i<L.length
    ·have d1:decide ((i:Int)<((L.length:Nat):Int))=true:=bC (by omega);have b1:(0:Int)≤(i:Int)∧(i:Int)<((L.length:Nat):Int):=by omega
     have w1:=bI (a:=i) (by omega);obtain⟨_,cc,ee,hcell⟩:=cJ (m:=L.length) hv4 (dK _ _) (by omega);cases ee;have hc:=hcell i (by rw[dK];exact hlt);have hqi:=hq _ (List.getElem_mem (show i<(kd ns L).length by rw[dK];exact hlt));generalize(kd ns L)[i]'(by rw[dK];exact hlt)=q at hc hqi;simp only[↓zp,zw,↓reduceIte,aA,g8,g58,g59,g60,d1,b1,aF,aP,hc,knqs,hqi,w1];exact⟨L.length-(i+1),by omega,i+1,by trivial,by trivial,by trivial,by trivial,by trivial,by omega,rfl⟩
    ·have d1:decide ((i:Int)<((L.length:Nat):Int))=false:=bD (by omega);simp only[↓zp,zw,↓reduceIte,aA,g8,g58,g59,g60,d1,hge]
     exact⟨by trivial,E4⟩
 | @ifs e bd l' he hb hl'=>
   rcases hl' with rfl|⟨d,rfl,hd⟩
   ·skip
    replace hv4:Row h4 (.slice av 2 cv0) 3 1 (bL [kd1 ns e,kd1 ns bd]):=hv4;obtain⟨bv,cv,ev,hcv⟩:=cJ (m:=2) hv4 rfl (by omega);cases ev;have v0:bG h4 bv 0=some (.int .i64 ((kd1 ns e:Nat):Int)):=hcv 0 (by simp);have v1:bG h4 bv 1=some (.int .i64 ((kd1 ns bd:Nat):Int)):=hcv 1 (by simp);replace hrk4:Row h4 (.slice ak 2 ck) 3 1 (bL [e,bd]):=hrk4;replace c4:bG h4 h.size 4=some (.slice ak 2 ck):=c4;obtain⟨bk,ck',e4,hck⟩:=cJ (m:=2) hrk4 rfl (by omega);cases e4;have k0:bG h4 bk 0=some (.int .i64 ((e:Nat):Int)):=hck 0 (by simp);have k1:bG h4 bk 1=some (.int .i64 ((bd:Nat):Int)):=hck 1 (by simp);have q0:(0:Int)≤0∧(0:Int)<((2:Nat):Int):=by decide
    have q1:(0:Int)≤1∧(1:Int)<((2:Nat):Int):=by decide
    simp only[↓zp,zw,↓reduceIte,aA,c0,kqs,knqs,aY,aB,aD,aR,aZ,aN,aX,bW,bV,aQ,aP,q0,v0,q1,v1,c4,k0,k1];refine bK (eI (kd1 ns e)) ?_;rw[he.kd];simp only[↓zp,zw,↓reduceIte,aA,c0,kqs,knqs,aY,aB,aD,aR,aZ,aN,aX,bW,bV,aQ,aP,q0,v0,q1,v1,c4,k0,k1];refine bK (iT H4 hb) ?_;simp only[↓zp,zw,↓reduceIte,aA,c0,kqs,knqs,aY,aB,aD,aR,aZ,aN,aX,bW,bV,aQ,aP,q0,v0,q1,v1,c4,k0,k1];exact⟨by trivial,E4⟩
   ·skip
    replace hv4:Row h4 (.slice av 3 cv0) 3 1 (bL [kd1 ns e,kd1 ns bd,kd1 ns d]):=hv4;obtain⟨bv,cv,ev,hcv⟩:=cJ (m:=3) hv4 rfl (by omega);cases ev;have v0:bG h4 bv 0=some (.int .i64 ((kd1 ns e:Nat):Int)):=hcv 0 (by simp);have v1:bG h4 bv 1=some (.int .i64 ((kd1 ns bd:Nat):Int)):=hcv 1 (by simp);have v2:bG h4 bv 2=some (.int .i64 ((kd1 ns d:Nat):Int)):=hcv 2 (by simp);replace hrk4:Row h4 (.slice ak 3 ck) 3 1 (bL [e,bd,d]):=hrk4;replace c4:bG h4 h.size 4=some (.slice ak 3 ck):=c4;obtain⟨bk,ck',e4,hck⟩:=cJ (m:=3) hrk4 rfl (by omega);cases e4;have k0:bG h4 bk 0=some (.int .i64 ((e:Nat):Int)):=hck 0 (by simp);have k1:bG h4 bk 1=some (.int .i64 ((bd:Nat):Int)):=hck 1 (by simp);have k2:bG h4 bk 2=some (.int .i64 ((d:Nat):Int)):=hck 2 (by simp);have q0:(0:Int)≤0∧(0:Int)<((3:Nat):Int):=by decide
    have q1:(0:Int)≤1∧(1:Int)<((3:Nat):Int):=by decide
    have q2:(0:Int)≤2∧(2:Int)<((3:Nat):Int):=by decide
    simp only[↓zp,zw,↓reduceIte,aA,c0,kqs,knqs,aY,aB,aD,aR,aZ,aN,aX,bW,bV,aQ,aP,q0,v0,q1,v1,q2,v2,c4,k0,k1,k2];refine bK (eI (kd1 ns e)) ?_;rw[he.kd];simp only[↓zp,zw,↓reduceIte,aA,c0,kqs,knqs,aY,aB,aD,aR,aZ,aN,aX,bW,bV,aQ,aP,q0,v0,q1,v1,q2,v2,c4,k0,k1,k2];refine bK (iT H4 hb) ?_;simp only[↓zp,zw,↓reduceIte,aA,c0,kqs,knqs,aY,aB,aD,aR,aZ,aN,aX,bW,bV,aQ,aP,q0,v0,q1,v1,q2,v2,c4,k0,k1,k2];refine bK (iT H4 hd) ?_;simp only[↓zp,zw,↓reduceIte,aA,c0,kqs,knqs,aY,aB,aD,aR,aZ,aN,aX,bW,bV,aQ,aP,q0,v0,q1,v1,q2,v2,c4,k0,k1,k2]
    exact⟨by trivial,E4⟩
 | @fors f m1 n1 bd hf hm1 hn1 hb=>
   have hvp:Row h4 (.slice av 4 cv0) 3 1 (bL [kd1 ns f,kd1 ns m1,kd1 ns n1,kd1 ns bd]):=hv4;have hld5:dH h4 h.size 0 6=some (bM (x,.slice ak 4 ck)):=hld4;simp only[↓zp,zw,↓reduceIte,aA,c0,kqs,aY,hld5];refine bH (parts_c H4 hl (by rw[hl];exact hrk4) hb hvp hf.kd hm1.kd hn1.kd) ?_;rintro _ h5 ⟨rfl,hE5⟩;simp only[↓zp,zw,↓reduceIte,aA]
   exact⟨by trivial,E4.trans hE5⟩
 | @each _ a0 e bd hkk ha he hb=>
   replace hv4:Row h4 (.slice av 3 cv0) 3 1 (bL [kd1 ns a0,kd1 ns e,kd1 ns bd]):=hv4;obtain⟨bv,cv,ev,hcv⟩:=cJ (m:=3) hv4 rfl (by omega);cases ev;have v0:bG h4 bv 0=some (.int .i64 ((kd1 ns a0:Nat):Int)):=hcv 0 (by simp);have v1:bG h4 bv 1=some (.int .i64 ((kd1 ns e:Nat):Int)):=hcv 1 (by simp);have v2:bG h4 bv 2=some (.int .i64 ((kd1 ns bd:Nat):Int)):=hcv 2 (by simp);replace hrk4:Row h4 (.slice ak 3 ck) 3 1 (bL [a0,e,bd]):=hrk4;replace c4:bG h4 h.size 4=some (.slice ak 3 ck):=c4;obtain⟨bk,ck',e4,hck⟩:=cJ (m:=3) hrk4 rfl (by omega);cases e4;have k0:bG h4 bk 0=some (.int .i64 ((a0:Nat):Int)):=hck 0 (by simp);have k1:bG h4 bk 1=some (.int .i64 ((e:Nat):Int)):=hck 1 (by simp);have k2:bG h4 bk 2=some (.int .i64 ((bd:Nat):Int)):=hck 2 (by simp);have q0:(0:Int)≤0∧(0:Int)<((3:Nat):Int):=by decide
   have q1:(0:Int)≤1∧(1:Int)<((3:Nat):Int):=by decide
   have q2:(0:Int)≤2∧(2:Int)<((3:Nat):Int):=by decide
   rcases hkk with rfl|rfl
   all_goals
    rcases ha with ha|ha
    ·have h6:=ha.kd;simp only[↓zp,zw,↓reduceIte,aA,c0,kqs,knqs,aY,aB,aD,aR,aZ,aN,aX,bW,bV,aQ,aP,q0,v0,q1,v1,q2,v2,c4,k0,k1,k2,h6];refine bK (eI (kd1 ns e)) ?_;rw[he.kd];simp only[↓zp,zw,↓reduceIte,aA,c0,kqs,knqs,aY,aB,aD,aR,aZ,aN,aX,bW,bV,aQ,aP,q0,v0,q1,v1,q2,v2,c4,k0,k1,k2];refine bK (iT H4 hb) ?_;simp only[↓zp,zw,↓reduceIte,aA,c0,kqs,knqs,aY,aB,aD,aR,aZ,aN,aX,bW,bV,aQ,aP,q0,v0,q1,v1,q2,v2,c4,k0,k1,k2];exact⟨by trivial,E4⟩
    ·have hone:=ha;obtain⟨y,i0,z,hy,hdk,_⟩:=ha;have hky:=oP hy
     have h3:((kd1 ns a0==6)=false∧((kd1 ns a0==33)=true∨((kd1 ns a0==33)=false∧(kd1 ns a0==34)=true))):=by
      rw[hky];have:y.kind=33∨y.kind=34:=by simpa[fN]using hdk
      rcases this with e|e<;>rw[e]<;>simp
     obtain⟨h6,h3⟩:=h3;rcases h3 with h33|⟨h33,h34⟩
     case' inl=>simp only[↓zp,zw,↓reduceIte,aA,c0,kqs,knqs,aY,aB,aD,aR,aZ,aN,aX,bW,bV,aQ,aP,q0,v0,q1,v1,q2,v2,c4,k0,k1,k2,h6,h33]
     case' inr=>simp only[↓zp,zw,↓reduceIte,aA,c0,kqs,knqs,aY,aB,aD,aR,aZ,aN,aX,bW,bV,aQ,aP,q0,v0,q1,v1,q2,v2,c4,k0,k1,k2,h6,h33,h34]
     all_goals
      refine bH (one_c H4 hone) ?_;rintro _ h5 ⟨rfl,hE5⟩;replace v1:=hE5.cell v1 (by simp);replace k2:=hE5.cell k2 (by simp);replace c4:=hE5.cell c4 (by simp);simp only[↓zp,zw,↓reduceIte,aA,c0,kqs,knqs,aY,aB,aD,aR,aZ,aN,aX,bW,bV,aQ,aP,q0,v0,q1,v1,q2,v2,c4,k0,k1,k2];refine bK (eI (kd1 ns e)) ?_;rw[he.kd];simp only[↓zp,zw,↓reduceIte,aA,c0,kqs,knqs,aY,aB,aD,aR,aZ,aN,aX,bW,bV,aQ,aP,q0,v0,q1,v1,q2,v2,c4,k0,k1,k2];refine bK (iT (H4.ext0 hE5) hb) ?_;simp only[↓zp,zw,↓reduceIte,aA,c0,kqs,knqs,aY,aB,aD,aR,aZ,aN,aX,bW,bV,aQ,aP,q0,v0,q1,v1,q2,v2,c4,k0,k1,k2]
      exact⟨by trivial,E4.trans hE5⟩
 | @whiles e bd he hb=>
   replace hv4:Row h4 (.slice av 2 cv0) 3 1 (bL [kd1 ns e,kd1 ns bd]):=hv4;obtain⟨bv,cv,ev,hcv⟩:=cJ (m:=2) hv4 rfl (by omega);cases ev;have v0:bG h4 bv 0=some (.int .i64 ((kd1 ns e:Nat):Int)):=hcv 0 (by simp);have v1:bG h4 bv 1=some (.int .i64 ((kd1 ns bd:Nat):Int)):=hcv 1 (by simp);replace hrk4:Row h4 (.slice ak 2 ck) 3 1 (bL [e,bd]):=hrk4;replace c4:bG h4 h.size 4=some (.slice ak 2 ck):=c4;obtain⟨bk,ck',e4,hck⟩:=cJ (m:=2) hrk4 rfl (by omega);cases e4;have k0:bG h4 bk 0=some (.int .i64 ((e:Nat):Int)):=hck 0 (by simp);have k1:bG h4 bk 1=some (.int .i64 ((bd:Nat):Int)):=hck 1 (by simp);have q0:(0:Int)≤0∧(0:Int)<((2:Nat):Int):=by decide
   have q1:(0:Int)≤1∧(1:Int)<((2:Nat):Int):=by decide
   simp only[↓zp,zw,↓reduceIte,aA,c0,kqs,knqs,aY,aB,aD,aR,aZ,aN,aX,bW,bV,aQ,aP,q0,v0,q1,v1,c4,k0,k1];refine bK (eI (kd1 ns e)) ?_;rw[he.kd];simp only[↓zp,zw,↓reduceIte,aA,c0,kqs,knqs,aY,aB,aD,aR,aZ,aN,aX,bW,bV,aQ,aP,q0,v0,q1,v1,c4,k0,k1];refine bK (iT H4 hb) ?_;simp only[↓zp,zw,↓reduceIte,aA,c0,kqs,knqs,aY,aB,aD,aR,aZ,aN,aX,bW,bV,aQ,aP,q0,v0,q1,v1,c4,k0,k1]
   exact⟨by trivial,E4⟩
 | @dos bd e hb he=>
   replace hv4:Row h4 (.slice av 2 cv0) 3 1 (bL [kd1 ns bd,kd1 ns e]):=hv4;obtain⟨bv,cv,ev,hcv⟩:=cJ (m:=2) hv4 rfl (by omega);cases ev;have v0:bG h4 bv 0=some (.int .i64 ((kd1 ns bd:Nat):Int)):=hcv 0 (by simp);have v1:bG h4 bv 1=some (.int .i64 ((kd1 ns e:Nat):Int)):=hcv 1 (by simp);replace hrk4:Row h4 (.slice ak 2 ck) 3 1 (bL [bd,e]):=hrk4;replace c4:bG h4 h.size 4=some (.slice ak 2 ck):=c4;obtain⟨bk,ck',e4,hck⟩:=cJ (m:=2) hrk4 rfl (by omega);cases e4;have k0:bG h4 bk 0=some (.int .i64 ((bd:Nat):Int)):=hck 0 (by simp);have k1:bG h4 bk 1=some (.int .i64 ((e:Nat):Int)):=hck 1 (by simp);have q0:(0:Int)≤0∧(0:Int)<((2:Nat):Int):=by decide
   have q1:(0:Int)≤1∧(1:Int)<((2:Nat):Int):=by decide
   simp only[↓zp,zw,↓reduceIte,aA,c0,kqs,knqs,aY,aB,aD,aR,aZ,aN,aX,bW,bV,aQ,aP,q0,v0,q1,v1,c4,k0,k1];refine bK (iT H4 hb) ?_;simp only[↓zp,zw,↓reduceIte,aA,c0,kqs,knqs,aY,aB,aD,aR,aZ,aN,aX,bW,bV,aQ,aP,q0,v0,q1,v1,c4,k0,k1];refine bK (eI (kd1 ns e)) ?_;rw[he.kd];simp only[↓zp,zw,↓reduceIte,aA,c0,kqs,knqs,aY,aB,aD,aR,aZ,aN,aX,bW,bV,aQ,aP,q0,v0,q1,v1,c4,k0,k1]
   exact⟨by trivial,E4⟩
 | @tries _ bd cc f hb h=>
   replace hv4:Row h4 (.slice av 3 cv0) 3 1 (bL [kd1 ns bd,kd1 ns cc,kd1 ns f]):=hv4;obtain⟨bv,cv,ev,hcv⟩:=cJ (m:=3) hv4 rfl (by omega);cases ev;have v0:bG h4 bv 0=some (.int .i64 ((kd1 ns bd:Nat):Int)):=hcv 0 (by simp);have v1:bG h4 bv 1=some (.int .i64 ((kd1 ns cc:Nat):Int)):=hcv 1 (by simp);have v2:bG h4 bv 2=some (.int .i64 ((kd1 ns f:Nat):Int)):=hcv 2 (by simp);have q0:(0:Int)≤0∧(0:Int)<((3:Nat):Int):=by decide
   have q1:(0:Int)≤1∧(1:Int)<((3:Nat):Int):=by decide
   have q2:(0:Int)≤2∧(2:Int)<((3:Nat):Int):=by decide
   have h0:=hb.kd;rcases h with⟨h1,h2,h3⟩|⟨h1,h2,h3⟩
   ·have e1:(t==[])=false:=by
     rw[beq_eq_false_iff_ne];intro e;rw[e]at h1;cases h1
    have h2:=h2.kd;have h3:=h3.kd
    have h4':(kd1 ns f==32)=true∨((kd1 ns f==32)=false∧(kd1 ns f==54)=true):=by
     cases h:(kd1 ns f==32)
     ·rw[h,Bool.false_or]at h3;exact .inr ⟨rfl,h3⟩
     ·exact .inl rfl
    rcases h4' with h5|⟨h5,h6⟩
    case' inl=>simp only[↓zp,zw,↓reduceIte,aA,c0,kqs,knqs,aY,aB,aD,aR,aZ,aN,aX,bW,bV,aQ,aP,q0,v0,q1,v1,q2,v2,h0,h2,h5]
    case' inr=>simp only[↓zp,zw,↓reduceIte,aA,c0,kqs,knqs,aY,aB,aD,aR,aZ,aN,aX,bW,bV,aQ,aP,q0,v0,q1,v1,q2,v2,h0,h2,h5,h6]
    all_goals
     refine bR 19 (by kernel_rfl) (by kernel_rfl) (by kernel_rfl) ?_;simp only[↓zp,zw,↓reduceIte,aA,c0,kqs,knqs,aY,aB,aD,aR,aZ,aN,aX,bW,bV,aQ,aP,q0,v0,q1,v1,q2,v2,h2,c1,e1,BEq.rfl];exact⟨by trivial,E4⟩
   ·subst h1;have e1:(([]:List UInt8)==[])=true:=rfl;have h2:=h2.kd;have h3:=h3.kd
    have h4':(kd1 ns cc==32)=false:=by
     simp only[beq_iff_eq]at h2;rw[h2];rfl
    simp only[↓zp,zw,↓reduceIte,aA,c0,kqs,knqs,aY,aB,aD,aR,aZ,aN,aX,bW,bV,aQ,aP,q0,v0,q1,v1,q2,v2,h0,h2,h3,h4'];refine bR 19 (by kernel_rfl) (by kernel_rfl) (by kernel_rfl) ?_;simp only[↓zp,zw,↓reduceIte,aA,c0,kqs,knqs,aY,aB,aD,aR,aZ,aN,aX,bW,bV,aQ,aP,q0,v0,q1,v1,q2,v2,h3,h4',c1,e1,BEq.rfl]
    exact⟨by trivial,E4⟩
 | @switch e l' _ he hls hd=>
   replace hv4:Row h4 (.slice av (l'.length+1) cv0) 3 1 (bL (kd1 ns e::kd ns l')):=hv4
   have hcnt:(kd ns l').countP (·==51)≤1:=by
    obtain⟨l1,l2,rfl,h1,h2⟩:=hd
    have z:∀{l},allK ns l (·==50)→(kd ns l).countP (·==51)=0:=fun h=>by
     rw[List.countP_eq_zero];intro k hk h51;have:=h.kd k hk;simp only[beq_iff_eq]at this h51;omega
    have ea:kd ns (l1++l2)=kd ns l1++kd ns l2:=by simp[kd]
    rw[ea,List.countP_append,z h1];rcases h2 with rfl|⟨d,l3,rfl,hd,h3⟩
    ·simp[kd]
    ·show 0+(kd1 ns d::kd ns l3).countP (·==51)≤1;rw[List.countP_cons,z h3];split<;>omega
   simp only[↓zp,zw,↓reduceIte,aA,c0,kqs,aY,aB];refine bK (clauses_c hv4 (by rw[dK];simp at hfew;omega) he.kd hls.kd hcnt) ?_;simp only[↓zp,zw,↓reduceIte,aA]
   exact⟨by trivial,E4⟩
 | @case e l' he hls=>
   replace hv4:Row h4 (.slice av (l'.length+1) cv0) 3 1 (bL (kd1 ns e::kd ns l')):=hv4;have hv5:=hv4;have hge:decide (((l'.length+1:Nat):Int)≥1)=true:=bC (by omega);have q0:(0:Int)≤0∧(0:Int)<((l'.length+1:Nat):Int):=by omega
   obtain⟨bv,cv,ev,hcv⟩:=cJ (m:=l'.length+1) hv4 (by simp[dK]) (by omega);cases ev;have v0:bG h4 bv 0=some (.int .i64 ((kd1 ns e:Nat):Int)):=hcv 0 (by simp);simp only[↓zp,zw,↓reduceIte,aA,c0,kqs,aY,aB,hge,q0,v0,aN,aQ];refine bK (eI (kd1 ns e)) ?_;rw[he.kd];simp only[↓zp,zw,↓reduceIte,aA,aB];refine bK (stmts_c (at0:=1) hv5 (by simp[dK]at hfew⊢;omega) (by omega) (tl_all hls.kd)) ?_;simp only[↓zp,zw,↓reduceIte,aA]
   exact⟨by trivial,E4⟩
 | @label _ bd hx' hb=>
   replace hrk4:Row h4 (.slice ak 1 ck) 3 1 (bL [bd]):=hrk4;replace c4:bG h4 h.size 4=some (.slice ak 1 ck):=c4;obtain⟨bk,ck',e4,hck⟩:=cJ (m:=1) hrk4 rfl (by omega);cases e4;have k0:bG h4 bk 0=some (.int .i64 ((bd:Nat):Int)):=hck 0 (by simp);have q0:(0:Int)≤0∧(0:Int)<((1:Nat):Int):=by decide
   simp only[↓zp,zw,↓reduceIte,aA,c0,kqs,knqs,aY,aB,aD,aR,aZ,aN,aX,bW,bV,aQ,aP,q0,c4,k0];refine bK (iT H4 hb) ?_;simp only[↓zp,zw,↓reduceIte,aA]
   exact⟨by trivial,E4⟩
 |plain h=>rcases h with rfl|rfl|rfl|rfl|rfl|rfl<;>exact absurd hm (by decide)
 |call h=>rcases h with rfl|rfl<;>exact absurd hm (by decide)
 |two h=>rcases h with rfl|rfl|rfl<;>exact absurd hm (by decide)
 |prepost h=>rcases h with rfl|rfl<;>exact absurd hm (by decide)
 |one h=>rcases h with rfl|rfl|rfl|rfl<;>exact absurd hm (by decide)
 |leave h=>rcases h with rfl|rfl<;>exact absurd hm (by decide)
 |_=>exact absurd hm (by decide)
end
end
end Go.Proofs.YtfmbepijhnaklaaGreatDoor

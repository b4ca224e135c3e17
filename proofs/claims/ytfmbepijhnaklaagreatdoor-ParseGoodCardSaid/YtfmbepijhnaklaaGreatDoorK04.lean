/- Proved here: The scanner's law | The parser's memory | strings.Builder of one's own | The parser's small functions | The parser's small functions, second part | The parser's small functions, third part | The parser's look-ahead loops | Steps of the parser's functions | The parser's functions that call each other. Conditions: what each statement names. -/
import Derived.Test.YtfmbepijhnaklaaGreatDoorK03
import Derived.Lib.Builder
import Derived.Lib.UnsafeStr
import Derived.WalkKit
import Derived.Laws.Externs
set_option maxRecDepth 100000
set_option maxHeartbeats 4000000
set_option linter.unusedSimpArgs false
set_option linter.unusedVariables false
set_option linter.defProp false
open Nat renaming reduceEqDiff → aA, le_of_ble_eq_true → aG, mul_one → aP, zero_mul → aQ, zero_add → aR, reduceBEq → aY, reduceAdd → aZ, le_refl → bA
open List renaming length_cons → aB, length_append → aC, length_nil → aD, map_toArray → aH, map_cons → aJ, map_nil → aK, perm_iff_count → aM, count_append → aO, getElem?_eq_getElem → aS, count_cons → aT, count_nil → aV
open Go.Proofs.Tryz renaming prog → aE
open Int renaming toNat_natCast → aF, toNat_zero → aN, toNat_one → aX
open Bool renaming false_eq_true → aI, eq_iff_iff → aW
open And renaming intro → aL
open Go.IntWalk renaming i64_in → aU
namespace Go.Proofs.YtfmbepijhnaklaaGreatDoor
section
def bY(src:List UInt8)(i:Nat):UInt8:=src.getD i 0
def hasB(src:List UInt8)(i:Nat)(t:List UInt8):Bool:=t.isPrefixOf (src.drop i)
def nlTexts:List (List UInt8):=[[10],[13],[226,128,168],[226,128,169]]
def blTexts:List (List UInt8):=[[32],[9],[11],[12],[194,160],[239,187,191]]
def fR(l:List (List UInt8))(src:List UInt8)(i:Nat):Option Nat:=(l.find? (hasB src i)).map (·.length)
def comB(src:List UInt8)(i:Nat):Bool:=hasB src i [47,47]||hasB src i [47,42]
inductive SkipP(src:List UInt8)(i:Nat)(l:Bool):Nat→Bool→Prop
 |refl:SkipP src i l i l
 |nl {j k:Nat} {m:Bool} (H:SkipP src i l j m) (h:fR nlTexts src j=some k):SkipP src i l (j+k) true
 |bl {j k:Nat} {m:Bool} (H:SkipP src i l j m) (h0:fR nlTexts src j=none) (h:fR blTexts src j=some k):SkipP src i l (j+k) m
 |co {j k:Nat} {m m':Bool} (H:SkipP src i l j m) (h0:fR nlTexts src j=none) (h1:fR blTexts src j=none) (h:comB src j=true) (hk:j<k) (hl:k≤src.length):SkipP src i l k m'
def qT(src:List UInt8)(j:Nat):Prop:=fR nlTexts src j=none∧fR blTexts src j=none∧comB src j=false
def gK(src:List UInt8):Nat→Nat→Bool→Option (Nat×Bool)
 |0,_,_=>none
 |n+1,i,l=>match fR nlTexts src i with
  |some k=>gK src n (i+k) true
  |none=>match fR blTexts src i with
   |some k=>gK src n (i+k) l
   |none=>if comB src i then none else some (i,l)
section
variable{src:List UInt8}
theorem gP{i:Nat}{t:List UInt8}(h:hasB src i t=true):t.length≤src.length-i:=by
 have h2:=List.isPrefixOf_iff_prefix.1 h;have:=h2.length_le;simpa using this
theorem iV{l:List (List UInt8)}(hl:∀t,t∈l→t≠[]){i k:Nat}(h:fR l src i=some k):0<k∧i+k≤src.length:=by
 unfold fR at h
 cases hf:l.find? (hasB src i)with
 |none=>rw[hf]at h;simp at h
 |some t=>
  rw[hf]at h;simp only[Option.map_some,Option.some.injEq]at h;have h1:=List.mem_of_find?_eq_some hf;have h2:=gP (List.find?_some hf);have h3:0<t.length:=List.length_pos_iff.2 (hl t h1);omega
theorem nl_ne:∀t,t∈nlTexts→t≠[]:=by decide
theorem bl_ne:∀t,t∈blTexts→t≠[]:=by decide
theorem SkipP.le{i j:Nat}{l m:Bool}(H:SkipP src i l j m)(hi:i≤src.length):i≤j∧j≤src.length:=by
 induction H with
 |refl=>exact⟨bA _,hi⟩
 |nl H h ih=>have:=iV nl_ne h;omega
 |bl H h0 h ih=>have:=iV bl_ne h;omega
 |co H h0 h1 h hk hl ih=>omega
theorem SkipP.det{i j:Nat}{l m:Bool}(H:SkipP src i l j m){n:Nat}{r:Nat×Bool}(hr:gK src n i l=some r):∃n',gK src n' j m=some r:=by
 induction H with
 |refl=>exact⟨n,hr⟩
 |nl H h ih=>
  obtain⟨n',ih⟩:=ih
  cases n' with
  |zero=>simp[gK]at ih
  |succ n'=>simp only[gK,h]at ih;exact⟨n',ih⟩
 |bl H h0 h ih=>
  obtain⟨n',ih⟩:=ih
  cases n' with
  |zero=>simp[gK]at ih
  |succ n'=>simp only[gK,h0,h]at ih;exact⟨n',ih⟩
 |co H h0 h1 h hk hl ih=>
  obtain⟨n',ih⟩:=ih
  cases n' with
  |zero=>simp[gK]at ih
  |succ n'=>simp[gK,h0,h1,h]at ih
theorem SkipP.fin{i j:Nat}{l m:Bool}(H:SkipP src i l j m)(hs:qT src j){n:Nat}{r:Nat×Bool}(hr:gK src n i l=some r):r=(j,m):=by
 obtain⟨n',h⟩:=H.det hr
 cases n' with
 |zero=>simp[gK]at h
 |succ n'=>
  simp only[gK,hs.1,hs.2.1,hs.2.2,aI,if_false,Option.some.injEq]at h;exact h.symm
theorem SkipP.noCo{i j:Nat}{l m:Bool}(H:SkipP src i l j m)(h0:fR nlTexts src j=none)(h1:fR blTexts src j=none)(hc:comB src j=true){n:Nat}{r:Nat×Bool}(hr:gK src n i l=some r):False:=by
 obtain⟨n',h⟩:=H.det hr
 cases n' with
 |zero=>simp[gK]at h
 |succ n'=>simp[gK,h0,h1,hc]at h
end
def eB(src:List UInt8)(i:Nat):List UInt8:=(src.drop i).takeWhile fun c=>cL c||dU c
def signs:List (List UInt8):=[[62,62,62,61],[46,46,46],[61,61,61],[33,61,61],[42,42,61],[60,60,61],[62,62,61],[62,62,62],[60,61],[62,61],[61,61],[33,61],[42,42],[43,43],[45,45],[60,60],[62,62],[38,38],[124,124],[43,61],[45,61],[42,61],[47,61],[37,61],[38,61],[124,61],[94,61],[61,62],[123],[125],[40],[41],[91],[93],[46],[59],[44],[60],[62],[43],[45],[42],[47],[37],[38],[124],[94],[33],[126],[63],[58],[61]]
def qY(src:List UInt8)(i:Nat):Option (List UInt8):=signs.find? (hasB src i)
def numB(src:List UInt8)(i:Nat):Bool:=dU (bY src i)||(bY src i==46&&dU (bY src (i+1)))
def quoB(src:List UInt8)(i:Nat):Bool:=bY src i==34||bY src i==39||bY src i==96
inductive TokR(src:List UInt8)(i:Nat)(l:Bool)(op:List Int):Tk→Nat→List Int→Prop
 |eof (h:src.length≤i):TokR src i l op {kind:=0,text:=[],str:=[],num:=0,fr:=i,til:=i,line:=l} i op
 |name {j:Nat} (h:i<src.length) (hc:cL (bY src i)=true) (hj:j=i+(eB src i).length):TokR src i l op {kind:=if gN (eB src i)then 2 else 1,text:=eB src i,str:=[],num:=0,fr:=i,til:=j,line:=l} j op
 |num {v j:Nat} (h:i<src.length) (hc:cL (bY src i)=false) (hd:numB src i=true) (hv:cC v) (hj:i<j) (hl:j≤src.length):TokR src i l op {kind:=4,text:=[],str:=[],num:=v,fr:=i,til:=j,line:=l} j op
 |txt {k j:Nat} {s:List UInt8} {op':List Int} (h:i<src.length) (hc:cL (bY src i)=false) (hd:numB src i=false) (hq:quoB src i=true) (hk:5≤k∧k≤9) (hs:s.length%2=0) (hj:i<j) (hl:j≤src.length):TokR src i l op {kind:=k,text:=[],str:=s,num:=0,fr:=i,til:=j,line:=l} j op'
 |sign {t:List UInt8} {j:Nat} {op':List Int} (h:i<src.length) (hc:cL (bY src i)=false) (hd:numB src i=false) (hq:quoB src i=false) (ht:qY src i=some t) (ho:op=[]→op'=[]) (hj:j=i+t.length):TokR src i l op {kind:=3,text:=t,str:=[],num:=0,fr:=i,til:=j,line:=l} j op'
 |piece {k j:Nat} {s:List UInt8} {op':List Int} (h:i<src.length) (ho:op≠[]) (hk:5≤k∧k≤9) (hs:s.length%2=0) (hj:i<j) (hl:j≤src.length):TokR src i l op {kind:=k,text:=[],str:=s,num:=0,fr:=i,til:=j,line:=l} j op'
def TokE(src:List UInt8)(i:Nat)(op:List Int):Prop:=i<src.length∧cL (bY src i)=false∧(numB src i=true∨quoB src i=true∨qY src i=none∨op≠[])
inductive LexP(src:List UInt8):List Tk→Nat→List Int→Prop
 |nil:LexP src [] 0 []
 |more {T:List Tk} {i j k:Nat} {op op':List Int} {l:Bool} {t:Tk} (H:LexP src T i op) (hs:SkipP src i false j l) (hb:qT src j) (ht:TokR src j l op t k op') (h0:t.kind≠0):LexP src (T++[t]) k op'
def LexD(src:List UInt8)(T:List Tk):Prop:=∃T0 i op j l t k op',T=T0++[t]∧LexP src T0 i op∧SkipP src i false j l∧qT src j∧TokR src j l op t k op'∧t.kind=0
def LexE(src:List UInt8):Prop:=∃T i op j l,LexP src T i op∧SkipP src i false j l∧((qT src j∧TokE src j op)∨(fR nlTexts src j=none∧fR blTexts src j=none∧comB src j=true))
def tokF(src:List UInt8)(i:Nat)(l:Bool):Option (Tk×Nat):=
 if src.length≤i then some ({kind:=0,text:=[],str:=[],num:=0,fr:=i,til:=i,line:=l},i)
 else if cL (bY src i)then some ({kind:=if gN (eB src i)then 2 else 1,text:=eB src i,str:=[],num:=0,fr:=i,til:=i+(eB src i).length,line:=l},i+(eB src i).length)
 else if numB src i||quoB src i then none
 else(qY src i).map fun t=>({kind:=3,text:=t,str:=[],num:=0,fr:=i,til:=i+t.length,line:=l},i+t.length)
def lexF(src:List UInt8):Nat→Nat→Option (List Tk)
 |0,_=>none
 |n+1,i=>match gK src (src.length+1) i false with
  |none=>none
  |some (j,l)=>match tokF src j l with
   |none=>none
   |some (t,k)=>if t.kind=0 then some [t]else(lexF src n k).map (t::·)
section
variable{src:List UInt8}
theorem TokR.det{i j:Nat}{l:Bool}{t:Tk}{op':List Int}(H:TokR src i l [] t j op'){r:Tk×Nat}(hr:tokF src i l=some r):r=(t,j)∧op'=[]:=by
 unfold tokF at hr
 cases H with
 |eof h=>rw[if_pos h]at hr;simp only[Option.some.injEq]at hr;exact⟨hr.symm,rfl⟩
 |name h hc hj=>rw[if_neg (by omega),if_pos hc]at hr;simp only[Option.some.injEq]at hr;subst hj;exact⟨hr.symm,rfl⟩
 |num h hc hd hv hj hl=>rw[if_neg (by omega),hc,hd]at hr;simp at hr
 |txt h hc hd hq hk hs hj hl=>rw[if_neg (by omega),hc,hq]at hr;simp at hr
 |sign h hc hd hq ht ho hj=>
  rw[if_neg (by omega),hc,hd,hq,ht]at hr;simp at hr;subst hj
  exact⟨hr.symm,ho rfl⟩
 |piece h ho=>exact absurd rfl ho
theorem TokE.no{i:Nat}{l:Bool}(H:TokE src i []){r:Tk×Nat}(hr:tokF src i l=some r):False:=by
 obtain⟨h1,h2,h3⟩:=H;unfold tokF at hr;rw[if_neg (by omega),h2]at hr;rcases h3 with h|h|h|h
 ·rw[h]at hr;simp at hr
 ·rw[h]at hr;simp at hr
 ·rw[h]at hr;simp at hr
 ·exact h rfl
theorem LexP.det{T:List Tk}{i:Nat}{op:List Int}(H:LexP src T i op){n:Nat}{T':List Tk}(hr:lexF src n 0=some T'):op=[]∧∃n' T'',lexF src n' i=some T''∧T'=T++T'':=by
 induction H with
 |nil=>exact⟨rfl,n,T',hr,rfl⟩
 |more H hs hb ht h0 ih=>
  obtain⟨rfl,n',T'',h1,h2⟩:=ih
  cases n' with
  |zero=>simp[lexF]at h1
  |succ n'=>
   simp only[lexF]at h1
   cases hk:gK src (src.length+1) _ false with
   |none=>rw[hk]at h1;simp at h1
   |some r=>
    have hr2:=hs.fin hb hk;subst hr2;rw[hk]at h1;simp only at h1
    cases hf:tokF src _ _ with
    |none=>rw[hf]at h1;simp at h1
    |some r=>
     obtain⟨hr3,ho⟩:=ht.det hf;subst hr3;rw[hf]at h1;simp only[if_neg h0,Option.map_eq_some_iff]at h1;obtain⟨T3,h4,h5⟩:=h1;exact⟨ho,n',T3,h4,by rw[h2,←h5];simp⟩
theorem LexD.det{T:List Tk}(H:LexD src T){n:Nat}{T':List Tk}(hr:lexF src n 0=some T'):T=T':=by
 obtain⟨T0,i,op,j,l,t,k,op',rfl,hp,hs,hb,ht,h0⟩:=H;obtain⟨rfl,n',T'',h1,h2⟩:=hp.det hr
 cases n' with
 |zero=>simp[lexF]at h1
 |succ n'=>
  simp only[lexF]at h1
  cases hk:gK src (src.length+1) _ false with
  |none=>rw[hk]at h1;simp at h1
  |some r=>
   have hr2:=hs.fin hb hk;subst hr2;rw[hk]at h1;simp only at h1
   cases hf:tokF src _ _ with
   |none=>rw[hf]at h1;simp at h1
   |some r=>
    obtain⟨hr3,ho⟩:=ht.det hf;subst hr3;rw[hf]at h1;simp only[if_pos h0,Option.some.injEq]at h1;rw[h2,←h1]
theorem LexE.no(H:LexE src){n:Nat}{T':List Tk}(hr:lexF src n 0=some T'):False:=by
 obtain⟨T,i,op,j,l,hp,hs,h⟩:=H;obtain⟨rfl,n',T'',h1,h2⟩:=hp.det hr
 cases n' with
 |zero=>simp[lexF]at h1
 |succ n'=>
  simp only[lexF]at h1
  cases hk:gK src (src.length+1) _ false with
  |none=>rw[hk]at h1;simp at h1
  |some r=>
   rcases h with⟨hb,hE⟩|⟨g1,g2,g3⟩
   ·have hr2:=hs.fin hb hk;subst hr2;rw[hk]at h1;simp only at h1
    cases hf:tokF src _ _ with
    |none=>rw[hf]at h1;simp at h1
    |some r=>exact hE.no hf
   ·exact hs.noCo g1 g2 g3 hk
theorem letter_lt:∀c:UInt8,cL c=true→c.toNat<128:=by
 intro c;have H:∀n:Fin 256,cL (UInt8.ofFin n)=true→(UInt8.ofFin n).toNat<128:=by decide
 exact H c.toFin
theorem digit_lt(c:UInt8)(h:dU c=true):c.toNat<128:=by simp[dU]at h;omega
theorem word_mem{i:Nat}{c:UInt8}(h:c∈eB src i):(cL c||dU c)=true:=by
 have:=List.all_takeWhile (p:=fun c=>cL c||dU c) (l:=src.drop i);exact List.all_eq_true.1 this c h
theorem wY{i:Nat}(hi:i≤src.length):i+(eB src i).length≤src.length:=by
 have h1:(eB src i).length≤(src.drop i).length:=(List.takeWhile_sublist _).length_le;simp at h1;omega
theorem tB{i:Nat}:(src.drop i).take (eB src i).length=eB src i:=by
 have h:eB src i<+:src.drop i:=List.takeWhile_prefix _;exact(List.prefix_iff_eq_take.1 h).symm
theorem word_head{i:Nat}(hi:i<src.length)(hc:cL (bY src i)=true):∃c l,eB src i=c::l∧cL c=true:=by
 unfold eB;rw[List.drop_eq_getElem_cons hi,List.takeWhile_cons];have e:bY src i=src[i]:=by simp[bY,hi]
 rw[e]at hc;rw[if_pos (by simp[hc])];exact⟨_,_,rfl,hc⟩
theorem TokR.ok{i j:Nat}{l:Bool}{op op':List Int}{t:Tk}(H:TokR src i l op t j op')(hi:i≤src.length)(hsm:src.length≤1000000):TkOk src t∧j≤src.length∧i≤j∧(t.kind≠0→i<j)∧((t.kind=1∨t.kind=2)→(∀b,b∈t.text→b.toNat<128)∧t.text.length≤src.length):=by
 cases H with
 |eof h=>exact⟨⟨by simp,by simp,by simp,by simp,by simp[cC],hi⟩,hi,bA _,by simp,by simp⟩
 |name h hc hj=>
  subst hj;obtain⟨c,r,e,h1⟩:=word_head h hc;have hp:0<(eB src i).length:=by rw[e];simp
  have hl:=wY (src:=src) (Nat.le_of_lt h);refine⟨⟨by dsimp only;split<;>omega,fun h2=> ?_,fun h2=> ?_,by simp,by simp[cC],hi⟩,hl,by omega,fun _=>by omega,fun _=>⟨fun b hb=> ?_,by dsimp only;omega⟩⟩
  ·dsimp only at h2;split at h2
   ·omega
   ·rename_i hw;refine⟨?_,tB⟩;unfold nmB;rw[Bool.and_eq_true];refine⟨?_,by simp only[decide_eq_true_eq];omega⟩;unfold fL;have ha:(eB src i).all (fun c=>cL c||dU c)=true:=List.all_takeWhile;rw[ha];simp only[hw,Bool.not_false,Bool.and_true];rw[e];exact h1
  ·dsimp only at h2;split at h2
   ·rename_i hw;exact hw
   ·omega
  ·have:=word_mem hb;rcases Bool.or_eq_true _ _▸this with h3|h3
   ·exact letter_lt b h3
   ·exact digit_lt b h3
 |num h hc hd hv hj hl=>exact⟨⟨by simp,by simp,by simp,by simp,hv,hi⟩,hl,by omega,fun _=>hj,by simp⟩
 |txt h hc hd hq hk hs hj hl=>exact⟨⟨by dsimp only;omega,by dsimp only;omega,by dsimp only;omega,hs,by simp[cC],hi⟩,hl,by omega,fun _=>hj,by dsimp only;omega⟩
 |sign h hc hd hq ht ho hj=>
  subst hj;have h1:=List.mem_of_find?_eq_some ht;have h2:=gP (List.find?_some ht);have h3:∀t,t∈signs→0<t.length:=by decide
  have h4:=h3 _ h1
  exact⟨⟨by simp,by simp,by simp,by simp,by simp[cC],hi⟩,by omega,by omega,fun _=>by omega,by simp⟩
 |piece h ho hk hs hj hl=>exact⟨⟨by dsimp only;omega,by dsimp only;omega,by dsimp only;omega,hs,by simp[cC],hi⟩,hl,by omega,fun _=>hj,by dsimp only;omega⟩
def ascT(src:List UInt8)(T:List Tk):Prop:=∀t,t∈T→(t.kind=1∨t.kind=2)→(∀b,b∈t.text→b.toNat<128)∧t.text.length≤src.length
theorem LexP.ok{T:List Tk}{i:Nat}{op:List Int}(H:LexP src T i op)(hsm:src.length≤1000000):i≤src.length∧T.length≤i∧(∀t,t∈T→TkOk src t)∧ascT src T:=by
 induction H with
 |nil=>exact⟨by omega,by simp,by simp,by simp[ascT]⟩
 |more H hs hb ht h0 ih=>
  obtain⟨h1,h2,h3,h4⟩:=ih;have g1:=hs.le h1;have g2:=ht.ok g1.2 hsm;have g3:=g2.2.2.2.1 h0;refine⟨g2.2.1,by simp;omega,fun t h=> ?_,fun t h=> ?_⟩
  ·rcases List.mem_append.1 h with h|h
   ·exact h3 t h
   ·simp only[List.mem_singleton]at h;subst h;exact g2.1
  ·rcases List.mem_append.1 h with h|h
   ·exact h4 t h
   ·simp only[List.mem_singleton]at h;subst h;exact g2.2.2.2.2
theorem LexD.ok{T:List Tk}(H:LexD src T)(hs:src.length≤900000):cN src T∧ascT src T∧T.length≤src.length+1:=by
 obtain⟨T0,i,op,j,l,t,k,op',rfl,hp,hsk,hb,ht,h0⟩:=H;obtain⟨h1,h2,h3,h4⟩:=hp.ok (by omega);have g1:=hsk.le h1;have g2:=ht.ok g1.2 (by omega);refine⟨⟨fun t h=> ?_,by simp[h0],by simp,by simp;omega⟩,fun t h=> ?_,by simp;omega⟩
 ·rcases List.mem_append.1 h with h|h
  ·exact h3 t h
  ·simp only[List.mem_singleton]at h;subst h;exact g2.1
 ·rcases List.mem_append.1 h with h|h
  ·exact h4 t h
  ·simp only[List.mem_singleton]at h;subst h;exact g2.2.2.2.2
end
end
theorem kQ{α:Type}(f:α→List Value)(sz:Nat)(hf:∀x,(f x).length=sz):∀l:List α,(l.flatMap f).length=l.length*sz
 |[]=>by simp
 |x::l=>by simp[List.flatMap_cons,kQ f sz hf l,hf,Nat.succ_mul,Nat.add_comm]
theorem fm_drop{α:Type}(f:α→List Value)(sz:Nat)(hf:∀x,(f x).length=sz):∀(l:List α) (i:Nat),(l.flatMap f).drop (i*sz)=(l.drop i).flatMap f
 |l,0=>by simp
 |[],i+1=>by simp
 |x::l,i+1=>by
  rw[List.flatMap_cons,Nat.succ_mul,Nat.add_comm (i*sz),←List.drop_drop,List.drop_left' (hf x),fm_drop f sz hf l i];rfl
theorem rT{α:Type}(f:α→List Value)(sz:Nat)(hf:∀x,(f x).length=sz)(l:List α)(i:Nat)(x:α)(hx:l[i]? =some x):((l.flatMap f).drop (i*sz)).take sz=f x:=by
 rw[fm_drop f sz hf];have hi:i<l.length:=(List.getElem?_eq_some_iff.1 hx).1;rw[List.drop_eq_getElem_cons hi,List.flatMap_cons,List.take_left' (hf _)];rw[aS hi]at hx;rw[Option.some.inj hx]
theorem fm_get{α:Type}(f:α→List Value)(sz:Nat)(hf:∀x,(f x).length=sz)(l:List α)(i j:Nat)(x:α)(hx:l[i]? =some x)(hj:j<sz):(l.flatMap f)[i*sz+j]? =(f x)[j]?:=by
 have:=rT f sz hf l i x hx;rw[←this,List.getElem?_take,if_pos hj,List.getElem?_drop]
def Tk.cells(t:Tk):List Value:=[.int .i64 t.kind,.string ⟨t.text.toArray⟩,.string ⟨t.str.toArray⟩,.float .f64 t.num,.int .i64 t.fr,.int .i64 t.til,.bool t.line]
theorem Tk.cells_len(t:Tk):t.cells.length=7:=rfl
def bM(x:Nd×Value):List Value:=[.int .i64 x.1.kind,.string ⟨x.1.text.toArray⟩,.string ⟨x.1.str.toArray⟩,.float .f64 x.1.num,x.2,.int .i64 x.1.pos]
theorem cU(x:Nd×Value):(bM x).length=6:=rfl
def bL(l:List Nat):List Value:=l.map fun(k:Nat)=> .int .i64 (k:Int)
theorem cW(l:List Nat):(bL l).length=l.length:=by simp[bL]
theorem pG(l:List Nat):one' (bL l)=true:=by
 rw[gO];intro v hv;simp[bL]at hv;obtain⟨k,_,rfl⟩:=hv;rfl
theorem yF(l m:List Nat):bL (l++m)=bL l++bL m:=by simp[bL]
def cI(l:List (List UInt8)):List Value:=l.map fun x=> .string ⟨x.toArray⟩
def KidsOk(h:Heap)(U:List Nat)(x:Nd×Value):Prop:=Row h x.2 3 1 (bL x.1.kids)∧∀b,b∈blks x.2→b∈U
structure PC where
 p:Nat
 T:List Tk
 vt:Value
 va:Value
 vu:Value
 vm:Nat
def StrMap(h:Heap)(m:Nat):Prop:=∃l:SList,SMap h m l∧∀x:List UInt8,(mget l x).getD (.int .i64 0)=.int .i64 (dX x:Int)
structure PS(h:Heap)(c:PC)(L:Nat)(U:List Nat)(s:St):Prop where
 body:∃vl kvs,Blk h c.p [c.vt,.int .i64 s.i,vl,c.va,c.vu,.map (some c.vm)] 61∧Row h vl 35 6 ((s.ns.zip kvs).flatMap bM)∧(∀b,b∈blks vl→b=L∧b≠c.p)∧kvs.length=s.ns.length∧∀x,x∈s.ns.zip kvs→KidsOk h U x
 used:∀b,b∈U→b<h.size∧b≠c.p∧b≠L
 ltL:L<h.size
 toks:Row h c.vt 73 7 (c.T.flatMap Tk.cells)
 toksU:∀b,b∈blks c.vt→b∈U
 asg:Row h c.va 9 1 (cI assignOps)
 asgU:∀b,b∈blks c.va→b∈U
 una:Row h c.vu 9 1 (cI unaryOps)
 unaU:∀b,b∈blks c.vu→b∈U
 str:StrMap h c.vm
 strU:c.vm∈U
 lt:s.i<c.T.length
 big:c.T.length≤1000000
 eof:(c.T.getD (c.T.length-1) default).kind=0
 asc:∀t,t∈c.T→(t.kind=1∨t.kind=2)→(∀b,b∈t.text→b.toNat<128)∧t.text.length≤1000000
theorem StrMap.ext{X:List Nat}{h h':Heap}{m:Nat}(hs:StrMap h m)(hE:Ext X h h')(hx:m∉X):StrMap h' m:=by
 obtain⟨l,hg,hf⟩:=hs;exact⟨l,hg.ext hE hx,hf⟩
theorem KidsOk.ext{X:List Nat}{h h':Heap}{U:List Nat}{x:Nd×Value}(hk:KidsOk h U x)(hE:Ext X h h')(hx:∀b,b∈X→b∉U):KidsOk h' U x:=
 ⟨hk.1.ext hE fun b hb hbX=>hx b hbX (hk.2 b hb),hk.2⟩
theorem PS.ext{X:List Nat}{h h':Heap}{c:PC}{L:Nat}{U:List Nat}{s:St}(hp:PS h c L U s)(hE:Ext X h h')(hx:∀b,b∈X→b≠c.p∧b≠L∧b∉U):PS h' c L U s:=by
 obtain⟨vl,kvs,h1,h2,h3,h4,h5⟩:=hp.body;have hpX:c.p∉X:=fun hm=>(hx _ hm).1 rfl;have hLX:L∉X:=fun hm=>(hx _ hm).2.1 rfl;have hU:∀b,b∈X→b∉U:=fun b hb=>(hx b hb).2.2
 exact{
  body:=⟨vl,kvs,h1.ext hE hpX,h2.ext hE (fun b hb hbX=>hLX ((h3 b hb).1▸hbX)),h3,h4,fun x hx'=>(h5 x hx').ext hE hU⟩
  used:=fun b hb=>⟨Nat.lt_of_lt_of_le (hp.used b hb).1 hE.1,(hp.used b hb).2⟩
  ltL:=Nat.lt_of_lt_of_le hp.ltL hE.1
  toks:=hp.toks.ext hE fun b hb hbX=>hU b hbX (hp.toksU b hb)
  toksU:=hp.toksU
  asg:=hp.asg.ext hE fun b hb hbX=>hU b hbX (hp.asgU b hb)
  asgU:=hp.asgU
  una:=hp.una.ext hE fun b hb hbX=>hU b hbX (hp.unaU b hb)
  unaU:=hp.unaU
  str:=hp.str.ext hE fun hm=>hU _ hm hp.strU
  strU:=hp.strU
  lt:=hp.lt
  big:=hp.big
  eof:=hp.eof
  asc:=hp.asc}
theorem PS.ext0{h h':Heap}{c:PC}{L:Nat}{U:List Nat}{s:St}(hp:PS h c L U s)(hE:Ext [] h h'):PS h' c L U s:=hp.ext hE (by simp)
structure Par(c:PC)(h:Heap)(L:Nat)(U:List Nat)(h':Heap)(L':Nat)(U':List Nat):Prop where
 hL:L'=L∨h.size≤L'
 hU:∀b,b∈U'→b∈U∨h.size≤b
 E:Ext [c.p,L] h h'
theorem Par.refl(c:PC)(h:Heap)(L:Nat)(U:List Nat):Par c h L U h L U:=⟨.inl rfl,fun _ h=> .inl h,Ext.refl _ _⟩
theorem Par.trans{c:PC}{h h1 h2:Heap}{L L1 L2:Nat}{U U1 U2:List Nat}(a:Par c h L U h1 L1 U1)(b:Par c h1 L1 U1 h2 L2 U2):Par c h L U h2 L2 U2:=by
 refine⟨?_,?_,?_⟩
 ·rcases b.hL with e|e
  ·rw[e];exact a.hL
  ·exact .inr (Nat.le_trans a.E.1 e)
 ·intro x hx;rcases b.hU x hx with e|e
  ·exact a.hU x e
  ·exact .inr (Nat.le_trans a.E.1 e)
 ·refine⟨Nat.le_trans a.E.1 b.E.1,fun i hi hx=> ?_⟩;rw[b.E.2 i (Nat.lt_of_lt_of_le hi a.E.1),a.E.2 i hi hx];simp only[List.mem_cons,List.not_mem_nil,or_false,not_or]at hx⊢;refine⟨hx.1,?_⟩;rcases a.hL with e|e
  ·rw[e];exact hx.2
  ·omega
theorem Par.of_ext{c:PC}{h h':Heap}{L:Nat}{U:List Nat}(hE:Ext [] h h'):Par c h L U h' L U:=⟨.inl rfl,fun _ h=> .inl h,hE.of_nil⟩
def Loc(h:Heap)(c:PC)(L:Nat)(U:List Nat)(b:Nat):Prop:=b<h.size∧b≠c.p∧b≠L∧b∉U
theorem Loc.par{c:PC}{h h':Heap}{L L':Nat}{U U':List Nat}{b:Nat}(hb:Loc h c L U b)(hp:Par c h L U h' L' U'):Loc h' c L' U' b:=by
 refine⟨Nat.lt_of_lt_of_le hb.1 hp.E.1,hb.2.1,?_,fun hm=> ?_⟩
 ·rcases hp.hL with e|e
  ·rw[e];exact hb.2.2.1
  ·have:=hb.1;omega
 ·rcases hp.hU b hm with e|e
  ·exact hb.2.2.2 e
  ·have:=hb.1;omega
theorem Loc.get{c:PC}{h h':Heap}{L L':Nat}{U U':List Nat}{b:Nat}(hb:Loc h c L U b)(hp:Par c h L U h' L' U'):h'[b]? =h[b]?:=
 hp.E.2 b hb.1 (by simp[hb.2.1,hb.2.2.1])
theorem Loc.blk{c:PC}{h h':Heap}{L L':Nat}{U U':List Nat}{b t:Nat}{l:List Value}(hb:Loc h c L U b)(hk:Blk h b l t)(hp:Par c h L U h' L' U'):Blk h' b l t:=(hb.get hp).trans hk
def Kids(h:Heap)(c:PC)(L:Nat)(U:List Nat)(v:Value)(ks:List Nat):Prop:=Row h v 3 1 (bL ks)∧∀b,b∈blks v→Loc h c L U b
theorem Kids.nil{h:Heap}{c:PC}{L:Nat}{U:List Nat}:Kids h c L U (.slice none 0 0) []:=⟨Row.nil,by simp[blks]⟩
theorem Kids.par{c:PC}{h h':Heap}{L L':Nat}{U U':List Nat}{v:Value}{ks:List Nat}(hk:Kids h c L U v ks)(hp:Par c h L U h' L' U'):Kids h' c L' U' v ks:=
 ⟨hk.1.ext hp.E fun b hb hm=>by
  have:=hk.2 b hb;simp only[List.mem_cons,List.not_mem_nil,or_false]at hm;rcases hm with e|e
  ·exact this.2.1 e
  ·exact this.2.2.1 e,fun b hb=>(hk.2 b hb).par hp⟩
theorem Loc.new{c:PC}{h h':Heap}{L:Nat}{U:List Nat}{s:St}{b:Nat}(hp:PS h c L U s)(hb:h.size≤b)(hb':b<h'.size):Loc h' c L U b:=by
 have hpl:c.p<h.size:=by obtain⟨vl,kvs,h1,_⟩:=hp.body;exact h1.lt
 exact⟨hb',by omega,by have:=hp.ltL;omega,fun hm=>by have:=(hp.used b hm).1;omega⟩
theorem PS.grow {c:PC} {h h':Heap} {L:Nat} {U:List Nat} {s:St} {v v':Value} {ks ks':List Nat} (hp:PS h c L U s) (hk:Kids h c L U v ks) (hr:Row h' v' 3 1 (bL ks'))
 (hc:(blks v'=blks v∧Ext (blks v) h h'∧h'.size=h.size)∨(blks v'=[h.size]∧Ext [] h h'∧h'.size=h.size+1)):PS h' c L U s∧Kids h' c L U v' ks'∧Ext (blks v) h h':=by
 rcases hc with⟨e1,e2,e3⟩|⟨e1,e2,e3⟩
 ·refine⟨hp.ext e2 fun b hb=>⟨(hk.2 b hb).2.1,(hk.2 b hb).2.2.1,(hk.2 b hb).2.2.2⟩,⟨hr,fun b hb=> ?_⟩,e2⟩;rw[e1]at hb;exact⟨by rw[e3];exact(hk.2 b hb).1,(hk.2 b hb).2⟩
 ·refine⟨hp.ext0 e2,⟨hr,fun b hb=> ?_⟩,e2.of_nil⟩;rw[e1]at hb;simp at hb;subst hb;exact Loc.new hp (bA _) (by omega)
theorem PS.tok{h:Heap}{c:PC}{L:Nat}{U:List Nat}{s:St}(hp:PS h c L U s){i:Nat}(hi:i<c.T.length):
 ∃b n cap,c.vt=.slice (some ⟨b,0,none⟩) n cap∧n=c.T.length∧dH h b (i*7) 7=some (c.T.getD i default).cells:=by
 have hl:=kQ Tk.cells 7 Tk.cells_len c.T;obtain⟨b,n,cap,cs,h1,h2,h3,h4,h5⟩:=hp.toks.open (by omega);refine⟨b,n,cap,h1,by omega,?_⟩;have hx:c.T[i]? =some (c.T.getD i default):=by rw[List.getD_eq_getElem?_getD,aS hi];rfl
 have hpc:=rT Tk.cells 7 Tk.cells_len c.T i _ hx;rw[pF h2 (by omega)];rw[←h4,List.drop_take,List.take_take]at hpc;rw[←hpc]
 congr 2
 omega
section
def bv(l:List UInt8):List Value:=l.map fun c=> .int .u8 (c.toNat:Int)
theorem jS(l:List UInt8):(bv l).length=l.length:=by simp[bv]
theorem bv_app(l m:List UInt8):bv (l++m)=bv l++bv m:=by simp[bv]
theorem bv_one(l:List UInt8):one' (bv l)=true:=by
 rw[gO];intro v hv;simp[bv]at hv;obtain⟨k,_,rfl⟩:=hv;rfl
def pcB(b:Nat):PC:={p:=b,T:=[],vt:=undef,va:=undef,vu:=undef,vm:=0}
def BS(h:Heap)(b K:Nat)(l:List UInt8):Prop:=
 ∃p v,Blk h b [.pointer p,v] 115∧(p=none∨p=some ⟨b,0,none⟩)∧Row h v 5 1 (bv l)∧(∀k,k∈blks v→k=K∧k≠b)∧K<h.size
theorem BS.lt{h:Heap}{b K:Nat}{l:List UInt8}(H:BS h b K l):b<h.size:=by obtain⟨p,v,hb,_⟩:=H;exact hb.lt
theorem BS.ext{X:List Nat}{h h':Heap}{b K:Nat}{l:List UInt8}(H:BS h b K l)(hE:Ext X h h')(hb:b∉X)(hK:K∉X):BS h' b K l:=by
 obtain⟨p,v,h1,h2,h3,h4,h5⟩:=H;exact⟨p,v,h1.ext hE hb,h2,h3.ext hE fun k hk=>(h4 k hk).1▸hK,h4,Nat.lt_of_lt_of_le h5 hE.1⟩
def BOut(v:Value)(b K:Nat)(l:List UInt8)(h:Heap)(e:Ending)(h':Heap):Prop:=e=.returned v∧∃K',BS h' b K' l∧Par (pcB b) h K [] h' K' []
section
variable{h:Heap}{b K:Nat}{l:List UInt8}
theorem sB(w:World)(h0:w.cell? ⟨b,0,none⟩=some (.pointer (some ⟨b,0,none⟩))):
 Calls aE 112 #[.pointer (some ⟨b,0,none⟩)] w fun e w'=>e=.returned (.tuple #[])∧w'=w:=by
 obtain⟨j,hj,_⟩:=Option.map_eq_some_iff.1 (show(aE.info? 115).map (·.size)=some 2 by kernel_rfl)
 go_enter Tryz.func112,Tryz.ntmps112
 go_wp2
 rw[Lib.run_neq_ptr_same w _ Tryz.underlying112 hj]
 go_wp2
 go_end0
 exact⟨rfl,rfl⟩
theorem pN(w:World)(h0:w.cell? ⟨b,0,none⟩=some (.pointer none))(hsh:w.shape? b=some (115,2))(hfz:w.frozen? ⟨b,0,none⟩=false):
 Calls aE 112 #[.pointer (some ⟨b,0,none⟩)] w fun e w'=>e=.returned (.tuple #[])∧w'=w.setCell ⟨b,0,none⟩ (.pointer (some ⟨b,0,none⟩)):=by
 obtain⟨j,hj,hjs⟩:=Option.map_eq_some_iff.1 (show(aE.info? 115).map (·.size)=some 2 by kernel_rfl)
 go_enter Tryz.func112,Tryz.ntmps112
 go_wp2
 rw[Lib.run_to_unsafe w ⟨b,0,none⟩ Tryz.underlying112 Tryz.underlying160 hj (by rw[hjs];decide) hsh (Nat.zero_lt_succ 1)];simp only[Result.andThen];rw[Oper.upon_value]
 go_wp2
 rw[run_callFunc_extern Tryz.func138 (by kernel_rfl) (by kernel_rfl) (by kernel_rfl) (e:=Extern.AbiNoEscape.same) (by kernel_rfl)];rw[Lib.run_noEscape];simp only[Result.andThen];rw[Oper.upon_value]
 go_wp2
 rw[Lib.run_from_unsafe w ⟨b,0,none⟩ Tryz.underlying160 Tryz.underlying112 hj hsh (by kernel_rfl)];simp only[Result.andThen];rw[Oper.upon_value]
 go_wp2
 go_end0
 exact⟨rfl,rfl⟩
theorem pJ(H:BS h b K l):C aE 112 #[.pointer (some ⟨b,0,none⟩)] h fun e h'=>e=.returned (.tuple #[])∧BS h' b K l∧Ext [b] h h'∧h'.size=h.size:=by
 obtain⟨p,v,h1,h2,h3,h4,h5⟩:=H;have hlt:=h1.lt;intro w hw;subst hw;have c0:w.cell? ⟨b,0,none⟩=some (.pointer p):=by rw[cell?_heap,bE h1];rfl
 rcases h2 with rfl|rfl
 ·refine(pN w c0 ?_ ?_).mono ?_
  ·have h1':w.heap[b]? =some (.cells #[.pointer none,v] 115):=h1;simp[World.shape?,h1']
  ·rw[frozen?_heap,gR h1]
  ·rintro e w' ⟨rfl,rfl⟩;have hh:(w.setCell ⟨b,0,none⟩ (.pointer (some ⟨b,0,none⟩))).heap=hset w.heap b 0 (.pointer (some ⟨b,0,none⟩)):=mN ..;refine⟨⟨rfl,rfl,rfl⟩,rfl,?_⟩;rw[hh];refine⟨⟨some ⟨b,0,none⟩,v,h1.set,.inr rfl,h3.ext (Ext.hset (X:=[b]) (by simp)) fun k hk=> ?_,h4,by rw[jZ];exact h5⟩,Ext.hset (by simp),jZ ..⟩;simpa using(h4 k hk).2
 ·refine(sB w c0).mono ?_;rintro e w' ⟨rfl,rfl⟩;exact⟨Amb.refl _,rfl,⟨_,v,h1,.inr rfl,h3,h4,h5⟩,Ext.refl _ _,rfl⟩
end
section
variable{h:Heap}{b K:Nat}{l:List UInt8}
theorem BS.grow {h h1 h2:Heap} {p:Option Addr} {v v1:Value} {l':List UInt8} (hb:Blk h b [.pointer p,v] 115) (hp:p=none∨p=some ⟨b,0,none⟩) (hk:∀k,k∈blks v→k=K∧k≠b)
 (hr:Row h1 v1 5 1 (bv l')) (hc:(blks v1=blks v∧Ext (blks v) h h1∧h1.size=h.size)∨(blks v1=[h.size]∧Ext [] h h1∧h1.size=h.size+1))
 (hb2:Blk h2 b [.pointer p,v1] 115) (hE:Ext [b] h1 h2) (hKs:K<h.size):∃K',BS h2 b K' l'∧Par (pcB b) h K [] h2 K' []:=by
 have hlt:=hb.lt;rcases hc with⟨e1,e2,e3⟩|⟨e1,e2,e3⟩
 ·refine⟨K,⟨p,v1,hb2,hp,hr.ext hE fun k hk'=>by rw[e1]at hk';simpa using(hk k hk').2,fun k hk'=>hk k (by rwa [e1]at hk'),by have:=hE.1;omega⟩,.inl rfl,fun _ h=> .inl h,?_⟩;exact(e2.mono fun x hx=>by simp[(hk x hx).1]).trans (hE.mono fun x hx=>by simp at hx;simp[hx,pcB])
 ·refine⟨h.size,⟨p,v1,hb2,hp,hr.ext hE fun k hk'=>by rw[e1]at hk';simp at hk'⊢;omega,fun k hk'=>by rw[e1]at hk';simp at hk';exact⟨hk',by omega⟩,by have:=hE.1;omega⟩,.inr (bA _),fun _ h=> .inl h,?_⟩;exact e2.of_nil.trans (hE.mono fun x hx=>by simp at hx;simp[hx,pcB])
theorem jE(H:BS h b K l)(c:UInt8)(hl:l.length≤1000000000):C aE 139 #[.pointer (some ⟨b,0,none⟩),.int .u8 (c.toNat:Int)] h (BOut .nilIface b K (l++[c]) h):=by
 refine C_in Tryz.func139 rfl rfl (by kernel_rfl) (aG rfl) ?_;simp only[↓zp,zw,aA];refine bH (pJ H) ?_;rintro _ h1 ⟨rfl,⟨p,v,hb,hp,hr,hk,hKs⟩,hE1,hs1⟩;simp only[↓zp,zw,aA,bE hb];refine dQ (vals:=bv [c]) (e:=5) Tryz.underlying113 (by kernel_rfl) rfl (bv_one _) rfl (by omega) (by omega) fun v2 h2 hr2 hb2 hE2 hs2=> ?_;simp only[↓zp,zw,aA];have hlt:=hb.lt
 refine fX (n:=1) (tx:=113) (e:=5) (sz:=1) (news:=bv [c]) (hr.ext hE2 (by simp)) Tryz.underlying113 (by kernel_rfl) (fun w hw=>by
  obtain⟨n,hn,hs⟩:=hr2.src (P:=aE) (tx:=113) (e':=5) Tryz.underlying113 (bv_one _) w hw;have:n=1:=by simpa[jS]using hn
  subst this;exact hs) (by simp only[jS,List.length_singleton];omega) fun v3 h3 hr3 hc3=> ?_
 have hb2:Blk h2 b [.pointer p,v] 115:=hb.ext hE2 (by simp)
 have hb3:Blk h3 b [.pointer p,v] 115:=by
  rcases hc3 with⟨_,e,_⟩|⟨_,e,_⟩
  ·exact hb2.ext e fun hm=>(hk _ hm).2 rfl
  ·exact hb2.ext e (by simp)
 obtain⟨a3,n3,c3,rfl,_⟩:=hr3.shape;simp only[↓zp,zw,aA];refine bS hb3 (by kernel_rfl) (by simp) rfl fun h4 hb4 hE4 hs4=> ?_;simp only[↓zp,zw,aA];rw[←bv_app]at hr3;obtain⟨K',g1,g2⟩:=BS.grow (K:=K) hb2 hp hk hr3 hc3 hb4 hE4 (by omega);refine⟨rfl,K',g1,?_⟩;have q1:Par (pcB b) h K [] h1 K []:=⟨.inl rfl,fun _ h=> .inl h,hE1.mono fun x hx=>by simp at hx;simp[hx,pcB]⟩;exact(q1.trans (Par.of_ext hE2)).trans g2
theorem bytes_bv(s:List UInt8):byteCells ⟨s.toArray⟩=bv s:=by simp[byteCells,bv]
theorem iA(H:BS h b K l)(s:List UInt8)(hl:l.length+s.length≤1000000000):C aE 90 #[.pointer (some ⟨b,0,none⟩),.string ⟨s.toArray⟩] h (BOut (.tuple #[.int .i64 (s.length:Int),.nilIface]) b K (l++s) h):=by
 refine C_in Tryz.func90 rfl rfl (by kernel_rfl) (aG rfl) ?_;simp only[↓zp,zw,aA];refine bH (pJ H) ?_;rintro _ h1 ⟨rfl,⟨p,v,hb,hp,hr,hk,hKs⟩,hE1,hs1⟩;simp only[↓zp,zw,aA,bE hb];have hlt:=hb.lt
 refine fX (n:=s.length) (tx:=9) (e:=5) (sz:=1) (news:=bv s) hr Tryz.underlying113 (by kernel_rfl) (fun w hw=>by
  have:=Src.ofString (P:=aE) (w:=w) Tryz.underlying9 ⟨s.toArray⟩;rw[bytes_bv]at this
  exact this) (by simp only[jS];omega) fun v3 h3 hr3 hc3=> ?_
 have hb3:Blk h3 b [.pointer p,v] 115:=by
  rcases hc3 with⟨_,e,_⟩|⟨_,e,_⟩
  ·exact hb.ext e fun hm=>(hk _ hm).2 rfl
  ·exact hb.ext e (by simp)
 obtain⟨a3,n3,c3,rfl,_⟩:=hr3.shape;simp only[↓zp,zw,aA];refine bS hb3 (by kernel_rfl) (by simp) rfl fun h4 hb4 hE4 hs4=> ?_;simp only[↓zp,zw,aA];rw[←bv_app]at hr3;obtain⟨K',g1,g2⟩:=BS.grow (K:=K) hb hp hk hr3 hc3 hb4 hE4 hKs;refine⟨rfl,K',g1,?_⟩;have q1:Par (pcB b) h K [] h1 K []:=⟨.inl rfl,fun _ h=> .inl h,hE1.mono fun x hx=>by simp at hx;simp[hx,pcB]⟩;exact q1.trans g2
end
section
variable{P:Program}{ty:TypeId}{dst:Option Nat}{ρ:Env}{h:Heap}{k:Env→Heap→Prop}{E:List PanicEntry→Heap→Prop}
theorem uG{t:Nat}{v u:Value}{w w':World}(H:(Builtin.unsafeSliceData_ #[t] ty #[v]).run P w=.ok u w'):
 (execOp (ev ρ) ⟨dst,.call ⟨.builtin .unsafeSliceData,#[.const v],#[t]⟩,ty,"",#[],none⟩).run P w=.ok (.value u) w':=by
 show((do let d←resolve (ev ρ) ⟨.builtin .unsafeSliceData,#[.const v],#[t]⟩ ty;invoke d.target d.args):Sem Next).run P w=_;simp only[resolve,aH,aJ,aK,dZ];exact fZ H
theorem us_run{t t':Nat}{v v' u:Value}{w w':World}(H:(Builtin.unsafeString_ #[t,t'] ty #[v,v']).run P w=.ok u w'):
 (execOp (ev ρ) ⟨dst,.call ⟨.builtin .unsafeString,#[.const v,.const v'],#[t,t']⟩,ty,"",#[],none⟩).run P w=.ok (.value u) w':=by
 show((do let d←resolve (ev ρ) ⟨.builtin .unsafeString,#[.const v,.const v'],#[t,t']⟩ ty;invoke d.target d.args):Sem Next).run P w=_;simp only[resolve,aH,aJ,aK,dZ];exact fZ H
theorem Wusd_some{t:Nat}{a:Addr}{n c:Nat}{tk:Tok (dst,ρ,k,E)}(hc:c≠0)(H:k (ρ.put dst (.pointer (some a))) h):
 eD P (.call ⟨.builtin .unsafeSliceData,#[.const (.slice (some a) n c)],#[t]⟩) ty dst ρ h k E tk:=
 eR fun w hw=>⟨_,w,uG (Lib.run_unsafeSliceData_row w _ _ a n c hc),Amb.refl _,by rw[hw];exact H⟩
theorem Wusd_none{t:Nat}{n c:Nat}{tk:Tok (dst,ρ,k,E)}(H:k (ρ.put dst (.pointer none)) h):
 eD P (.call ⟨.builtin .unsafeSliceData,#[.const (.slice none n c)],#[t]⟩) ty dst ρ h k E tk:=
 eR fun w hw=>⟨_,w,uG (Lib.run_unsafeSliceData_nil w _ _ n c),Amb.refl _,by rw[hw];exact H⟩
theorem Wusd_zero{t e g n:Nat}{sh:TypeId×Nat}{tk:Tok (dst,ρ,k,E)}(hp:P.underlying ty=some (.pointer e))(hsh:∀w:World,w.heap=h→w.shape? g=some sh)(H:∀h',Ext [] h h'→k (ρ.put dst (.pointer (some ⟨h.size,0,none⟩))) h'):
 eD P (.call ⟨.builtin .unsafeSliceData,#[.const (.slice (some ⟨g,0,none⟩) n 0)],#[t]⟩) ty dst ρ h k E tk:=
 eR fun w hw=>by
  subst hw;exact⟨_,_,uG (Lib.run_unsafeSliceData_zero w #[t] ty e hp ⟨g,0,none⟩ n sh (hsh w rfl)),⟨rfl,rfl,rfl⟩,H _ (Ext.push _ _ _)⟩
theorem sI{t t':Nat}{p:Option Addr}{tk:Tok (dst,ρ,k,E)}(H:k (ρ.put dst (.string .empty)) h):
 eD P (.call ⟨.builtin .unsafeString,#[.const (.pointer p),.const (.int .i64 0)],#[t,t']⟩) ty dst ρ h k E tk:=
 eR fun w hw=>⟨_,w,us_run (Lib.run_unsafeString_none w _ _ _ p),Amb.refl _,by rw[hw];exact H⟩
theorem sX{w:World}{g n b o:Nat}:bG (w.freeze ⟨g,0,none⟩ n).heap b o=bG w.heap b o:=by
 by_cases hn:n=0
 ·simp[World.freeze,hn]
 unfold bG World.freeze;rw[if_neg hn];simp only[Array.getElem?_modify];by_cases e:g=b
 ·subst e;simp only[if_true]
  cases w.heap[g]? with
  |none=>rfl
  |some x=>cases x<;>rfl
 ·simp only[e,if_false]
theorem Wus_row {t t' g:Nat} {cs:List Value} {l:List UInt8} {tk:Tok (dst,ρ,k,E)} (hp:P.underlying t=some (.pointer 5)) (hc:P.cellsOf 5=1) (hb:Blk h g cs 5) (hl:l≠[]) (hn:l.length≤cs.length) (h63:l.length≤9223372036854775807)
 (ht:cs.take l.length=bv l) (H:∀h',Ext [g] h h'→(∀b o,bG h' b o=bG h b o)→k (ρ.put dst (.string ⟨l.toArray⟩)) h'):
 eD P (.call ⟨.builtin .unsafeString,#[.const (.pointer (some ⟨g,0,none⟩)),.const (.int .i64 (l.length:Int))],#[t,t']⟩) ty dst ρ h k E tk:=by
 refine eR fun w hw=> ?_;subst hw;have hb':w.heap[g]? =some (.cells cs.toArray 5):=hb;have hsh:w.shape? g=some (5,cs.length):=by simp[World.shape?,hb']
 have hl0:¬l.length=0:=by simpa using hl
 refine⟨_,_,us_run (Lib.run_unsafeString_row w t t' _ 5 hp hc g cs.length hsh l hl hn h63 fun j x hj=> ?_),by rw[World.freeze,if_neg hl0];exact⟨rfl,rfl,rfl⟩,H _ ⟨?_,fun b hbl hx=> ?_⟩ fun b o=>sX⟩
 ·rw[eL,cell?_heap,bE hb,aR];have hjl:j<l.length:=(List.getElem?_eq_some_iff.1 hj).1;have:(cs.take l.length)[j]? =some (.int .u8 x.toNat):=by rw[ht];simp[bv,hj]
  rwa [List.getElem?_take,if_pos hjl]at this
 ·simp[World.freeze,hl0]
 ·simp only[World.freeze,hl0,if_false,Array.getElem?_modify];rw[if_neg (by simp at hx;omega)]
end
section
variable{h:Heap}{b K:Nat}{l:List UInt8}
theorem jV(H:BS h b K l)(hl:l.length≤1000000000):C aE 92 #[.pointer (some ⟨b,0,none⟩)] h fun e h'=>e=.returned (.string ⟨l.toArray⟩)∧Ext [K] h h':=by
 obtain⟨p,v,hb,hp,hr,hk,hKs⟩:=H;refine C_in Tryz.func92 rfl rfl (by kernel_rfl) (aG rfl) ?_;simp only[↓zp,zw,aA];obtain⟨a,n,c,rfl,hn⟩:=hr.shape;rw[jS,aP]at hn;subst hn;have hcell:bG h b 1=some (.slice a l.length c):=by rw[bE hb];rfl
 refine dL [(0,true),(1,true),(2,true),(3,true),(5,true),(6,true),(7,true),(8,true),(9,true),(4,false),(10,false),(11,true)] (fun h'=>bG h' b 1=some (.slice a l.length c)) (by kernel_rfl) (by kernel_rfl) (by kernel_rfl) rfl hcell ?_;simp only[Wo,fI,fP,if_true,aI,if_false]
 iterate 9 refine⟨_,.inl fun h' hS'=>by simp only[rdOp,↓zp,zw,aA,aH,aJ,aK,hS'];rfl,?_⟩
 refine cY rfl ?_;simp only[↓zp,zw,aA];rcases hr with⟨h1,h2⟩|⟨g,n,cap,cs,h1,h2,h3,h4,h5,h6⟩
 ·have hl0:l=[]:=by simpa[bv]using h2
  subst hl0;simp only[Value.slice.injEq]at h1;obtain⟨rfl,_,rfl⟩:=h1;refine Wusd_none ?_;simp only[↓zp,zw,aA];refine⟨hcell,cY rfl ?_⟩;simp only[↓zp,zw,aA];refine sI ?_;simp only[↓zp,zw,aA];refine⟨hcell,?_⟩;refine⟨_,.inl fun h' hS'=>by simp only[rdOp,↓zp,zw,aA,aH,aJ,aK,hS'];rfl,?_⟩;simp only[↓zp,zw,aA];exact⟨trivial,Ext.refl _ _⟩
 ·simp only[Value.slice.injEq]at h1;obtain⟨rfl,rfl,rfl⟩:=h1;rcases Nat.eq_zero_or_pos c with hc0|hc0
  ·subst hc0;have hl0:l=[]:=List.length_eq_zero_iff.1 (by omega);subst hl0;refine Wusd_zero (e:=5) (sh:=(5,cs.length)) Tryz.underlying140 (fun w hw=>by subst hw;have h2':w.heap[g]? =some (.cells cs.toArray 5):=h2;simp[World.shape?,h2']) fun h' hE=> ?_;simp only[↓zp,zw,aA];have hcell':=hE.cell hcell (by simp);refine⟨hcell',cY rfl ?_⟩;simp only[↓zp,zw,aA];refine sI ?_;simp only[↓zp,zw,aA];refine⟨hcell',?_⟩;refine⟨_,.inl fun h' hS'=>by simp only[rdOp,↓zp,zw,aA,aH,aJ,aK,hS'];rfl,?_⟩;simp only[↓zp,zw,aA];exact⟨trivial,hE.of_nil⟩
  refine Wusd_some (by omega) ?_;simp only[↓zp,zw,aA];refine⟨hcell,cY rfl ?_⟩;simp only[↓zp,zw,aA];by_cases hl0:l=[]
  ·subst hl0;refine sI ?_;simp only[↓zp,zw,aA];refine⟨hcell,?_⟩;refine⟨_,.inl fun h' hS'=>by simp only[rdOp,↓zp,zw,aA,aH,aJ,aK,hS'];rfl,?_⟩;simp only[↓zp,zw,aA];exact⟨trivial,Ext.refl _ _⟩
  ·rw[jS]at h6;refine Wus_row Tryz.underlying140 (by kernel_rfl) h2 hl0 (by omega) (by omega) h6 fun h' hE hsame=> ?_;simp only[↓zp,zw,aA];refine⟨(hsame _ _).trans hcell,?_⟩;refine⟨_,.inl fun h' hS'=>by simp only[rdOp,↓zp,zw,aA,aH,aJ,aK,hS'];rfl,?_⟩;simp only[↓zp,zw,aA];exact⟨trivial,hE.mono fun x hx=>by simp at hx;subst hx;simp[(hk x (by simp[blks])).1]⟩
end
section
variable{h:Heap}{b K:Nat}{l:List UInt8}
theorem dB{k k':IntKind}{a b:Int}(n:Nat)(hb:b=(n:Int)):binv .shr (.int k a) (.int k' b)=some (.int k (a.fdiv (2^min n k.bits))):=by subst hb;exact binv_shr
theorem dG{k k':IntKind}{a b:Int}(n:Nat)(hb:b=(n:Int)):binv .shl (.int k a) (.int k' b)=some (.int k (k.wrap (a*2^min n k.bits))):=by subst hb;exact binv_shl
def hiB(u:Nat):UInt8:=UInt8.ofNat (u/256)
def loB(u:Nat):UInt8:=UInt8.ofNat u
theorem sh8{u:Nat}(hu:u<65536):IntKind.u8.wrap ((u:Int).fdiv (2^min 8 IntKind.u16.bits))=((hiB u).toNat:Int):=by
 have e:(u:Int).fdiv (2^min 8 IntKind.u16.bits)=((u/256:Nat):Int):=by
  rw[show(2:Int)^min 8 IntKind.u16.bits=((256:Nat):Int) by decide,Int.fdiv_eq_ediv_of_nonneg _ (by omega)];omega
 rw[e,IntKind.wrap_u8];unfold hiB;rw[UInt8.toNat_ofNat_of_lt' (by show _<256;omega)];omega
theorem low8(u:Nat):IntKind.u8.wrap (u:Int)=((loB u).toNat:Int):=by
 rw[IntKind.wrap_u8];unfold loB;rw[UInt8.toNat_ofNat'];omega
theorem nY(f:Nat)(hf:f=113∨f=152)(H:BS h b K l)(u:Nat)(hu:u<65536)(hl:l.length≤999999990):C aE f #[.pointer (some ⟨b,0,none⟩),.int .u16 (u:Int)] h (BOut (.tuple #[]) b K (l++[hiB u,loB u]) h):=by
 rcases hf with rfl|rfl
 ·refine C_in Tryz.func113 rfl rfl (by kernel_rfl) (aG rfl) ?_;simp only[↓zp,zw,aA,dB (b:=8) 8 rfl,sh8 hu,low8];refine bH (jE H (hiB u) (by omega)) ?_;rintro _ h1 ⟨rfl,K1,H1,q1⟩;simp only[↓zp,zw,aA,dB (b:=8) 8 rfl,sh8 hu,low8];refine bH (jE H1 (loB u) (by simp;omega)) ?_;rintro _ h2 ⟨rfl,K2,H2,q2⟩;simp only[↓zp,zw,aA];exact⟨rfl,K2,by simpa using H2,q1.trans q2⟩
 ·refine C_in Tryz.func152 rfl rfl (by kernel_rfl) (aG rfl) ?_;simp only[↓zp,zw,aA,dB (b:=8) 8 rfl,sh8 hu,low8];refine bH (jE H (hiB u) (by omega)) ?_;rintro _ h1 ⟨rfl,K1,H1,q1⟩;simp only[↓zp,zw,aA,dB (b:=8) 8 rfl,sh8 hu,low8];refine bH (jE H1 (loB u) (by simp;omega)) ?_;rintro _ h2 ⟨rfl,K2,H2,q2⟩;simp only[↓zp,zw,aA];exact⟨rfl,K2,by simpa using H2,q1.trans q2⟩
end
theorem Par.newB{h h0 h1:Heap}{b K K1:Nat}(hE0:Ext [] h h0)(q:Par (pcB b) h0 K [] h1 K1 [])(hb:h.size≤b)(hK:h.size≤K):Ext [] h h1∧h.size≤K1:=by
 refine⟨hE0.trans_new q.E fun y hy=> ?_,?_⟩
 ·simp[pcB]at hy;rcases hy with rfl|rfl
  ·exact .inl hb
  ·exact .inl hK
 ·rcases q.hL with e|e
  ·omega
  ·exact Nat.le_trans hE0.1 e
end
section
def perr(p:Nat):List PanicEntry:=[{v:=.iface 78 (.agg #[.int .i64 (p:Int)]),recovered:=false}]
def POut{α:Type}(c:PC)(h:Heap)(L:Nat)(U:List Nat)(r:Res α)(val:α→Value)(e:Ending)(h':Heap):Prop:=match r with
 | .ok a s'=>e=.returned (val a)∧∃L' U',PS h' c L' U' s'∧Par c h L U h' L' U'
 | .err p=>e=.panicked (perr p)∧Ext [c.p,L] h h'
 | .out=>False
section
variable{α β:Type}{c:PC}{h0 h:Heap}{L0 L:Nat}{U0 U:List Nat}{s:St}{fn:Nat}{args:Array Value}{k:Env→Heap→Prop}{ρ:Env}{dst:Option Nat}{val0:β→Value}{r:Res β}
theorem iE(hq:Par c h0 L0 U0 h L U){h1:Heap}(hE:Ext [c.p,L] h h1):Ext [c.p,L0] h0 h1:=by
 refine hq.E.trans_new hE fun y hy=> ?_;simp only[List.mem_cons,List.not_mem_nil,or_false]at hy⊢;rcases hy with e|e
 ·exact .inr (.inl e)
 ·subst e;rcases hq.hL with e|e
  ·exact .inr (.inr e)
  ·exact .inl e
theorem bF {m:M α} {f:α→M β} {val:α→Value} (hq:Par c h0 L0 U0 h L U) (hrun:(m>>=f) s=r) (hne:r≠ .out)
 (hc:∀r1,m s=r1→r1≠ .out→C aE fn args h (POut c h L U r1 val))
 {E:List PanicEntry→Heap→Prop} (hE:E=fun ch h'=>POut c h0 L0 U0 r val0 (.panicked ch) h')
 {t:Tok (eH k E ρ dst)}
 (hok:∀a s1 h1 L1 U1,m s=.ok a s1→f a s1=r→PS h1 c L1 U1 s1→Par c h L U h1 L1 U1→Par c h0 L0 U0 h1 L1 U1→k (ρ.put dst (val a)) h1):
 CT aE fn args h (eH k E ρ dst) t:=by
 subst hE
 cases hm:m s with
 |ok a s1=>
  refine bH (hc _ hm (by simp)) ?_;rintro e h1 ⟨rfl,L1,U1,hp1,hq1⟩
  exact hok a s1 h1 L1 U1 hm (by rw[←hrun,eX hm]) hp1 hq1 (hq.trans hq1)
 |err p=>
  refine bH (hc _ hm (by simp)) ?_;rintro e h1 ⟨rfl,hE⟩;show POut c h0 L0 U0 r val0 (.panicked (perr p)) h1;rw[←hrun,fQ hm]
  exact⟨rfl,iE hq hE⟩
 |out=>exact absurd (by rw[←hrun,eK hm]) hne
theorem dO {m:M α} {val:α→Value} (hq:Par c h0 L0 U0 h L U) {r:Res α} (hrun:m s=r) (hne:r≠ .out)
 (hc:∀r1,m s=r1→r1≠ .out→C aE fn args h (POut c h L U r1 val))
 {E:List PanicEntry→Heap→Prop} (hE:E=fun ch h'=>POut c h0 L0 U0 r val (.panicked ch) h')
 {t:Tok (eH k E ρ dst)}
 (hok:∀a s1 h1,r=.ok a s1→POut c h0 L0 U0 r val (.returned (val a)) h1→k (ρ.put dst (val a)) h1):
 CT aE fn args h (eH k E ρ dst) t:=by
 subst hE;refine bH (hc _ hrun hne) ?_;intro e h1 hR
 cases r with
 |ok a s1=>
  obtain⟨rfl,L1,U1,hp1,hq1⟩:=hR
  exact hok a s1 h1 rfl ⟨rfl,L1,U1,hp1,hq.trans hq1⟩
 |err p=>
  obtain⟨rfl,hE⟩:=hR
  exact⟨rfl,iE hq hE⟩
 |out=>exact absurd rfl hne
theorem bO {v:Value} (hp:PS h c L U s) (hq:Par c h0 L0 U0 h L U) (hc:C aE fn args h fun e h'=>e=.returned v∧Ext [] h h')
 {E:List PanicEntry→Heap→Prop} {t:Tok (eH k E ρ dst)} (hok:∀h1,PS h1 c L U s→Par c h L U h1 L U→Par c h0 L0 U0 h1 L U→Ext [] h h1→k (ρ.put dst v) h1):
 CT aE fn args h (eH k E ρ dst) t:=by
 refine bH hc ?_;rintro e h1 ⟨rfl,hE⟩;have h2:=Par.of_ext (c:=c) (L:=L) (U:=U) hE;exact hok h1 (hp.ext0 hE) h2 (hq.trans h2) hE
end
theorem fT(t:Tk)(h:Heap):C aE 39 #[.agg t.cells.toArray] h fun e h'=>e=.returned (.string ⟨t.txt.toArray⟩)∧Ext [] h h':=by
 refine C_in Tryz.func39 rfl rfl (by kernel_rfl) (aG rfl) ?_;simp only[↓zp,zw,aA,Tk.cells];refine Wg_split (fun h1=> ?_) (fun h1=> ?_)<;>simp only[↓zp,zw,aA,h1,Bool.not_false]
 ·refine uA (fun h2=> ?_) (fun h2=> ?_)<;>simp only[↓zp,zw,aA]
  ·refine⟨?_,Ext.push _ _ _⟩;simp only[beq_iff_eq]at h2;simp[Tk.txt,show t.kind=2 by omega]
  ·refine⟨?_,Ext.push _ _ _⟩;simp at h1 h2;simp[Tk.txt];omega
 ·refine⟨?_,Ext.push _ _ _⟩;simp at h1;simp[Tk.txt,show t.kind=3 by omega]
theorem zP(t:Tk):jA t.cells 7=true:=mL.2 rfl
theorem zO(t:Tk):one' t.cells=true:=gO.2 (by intro v hv;simp[Tk.cells]at hv;rcases hv with rfl|rfl|rfl|rfl|rfl|rfl|rfl<;>rfl)
theorem PS.p{h:Heap}{c:PC}{L:Nat}{U:List Nat}{s:St}(hp:PS h c L U s):∃vl,Blk h c.p [c.vt,.int .i64 s.i,vl,c.va,c.vu,.map (some c.vm)] 61:=by
 obtain⟨vl,_,h1,_⟩:=hp.body;exact⟨vl,h1⟩
theorem eC{h:Heap}{c:PC}{L:Nat}{U:List Nat}{s:St}(hp:PS h c L U s):C aE 46 #[.pointer (some ⟨c.p,0,none⟩)] h fun e h'=>e=.returned (.agg (nowT c.T s).cells.toArray)∧Ext [] h h':=by
 obtain⟨vl,hb⟩:=hp.p;obtain⟨bt,n,cap,hv,hn,hld⟩:=hp.tok hp.lt;have hpl:=hb.lt;rw[hv]at hb;have hbt:bt<h.size:=(hp.used bt (hp.toksU bt (by rw[hv];simp[blks]))).1;have hr:0≤(s.i:Int)∧(s.i:Int)<(n:Nat):=by have:=hp.lt;omega
 refine C_in Tryz.func46 rfl rfl (by kernel_rfl) (aG rfl) ?_;simp only[↓zp,zw,aA];refine bR 10 (by kernel_rfl) (by kernel_rfl) (by kernel_rfl) ?_;simp only[↓zp,zw,aA,bE hb,hpl,hbt,hr,aF,hld,zP,zO];exact⟨rfl,Ext.push _ _ _⟩
theorem eV{h:Heap}{c:PC}{L:Nat}{U:List Nat}{s:St}(hp:PS h c L U s)(n:Nat)(hn:n≤2000000):C aE 124 #[.pointer (some ⟨c.p,0,none⟩),.int .i64 (n:Int)] h fun e h'=>e=.returned (.agg (bU c.T s n).cells.toArray)∧Ext [] h h':=by
 obtain⟨vl,hb⟩:=hp.p;have hlt:=hp.lt;have hbig:=hp.big;have hi:min (s.i+n) (c.T.length-1)<c.T.length:=by omega
 obtain⟨bt,m,cap,hv,hm,hld⟩:=hp.tok hi;subst hm;have hpl:=hb.lt;rw[hv]at hb;have hbt:bt<h.size:=(hp.used bt (hp.toksU bt (by rw[hv];simp[blks]))).1;have w1:IntKind.i64.wrap ((s.i:Int)+(n:Int))=((s.i+n:Nat):Int):=by rw[aU _ (by omega)];simp
 have w2:IntKind.i64.wrap ((c.T.length:Int)-1)=((c.T.length-1:Nat):Int):=by rw[aU _ (by omega)];omega
 have w3:(if((c.T.length-1:Nat):Int)<((s.i+n:Nat):Int)then((c.T.length-1:Nat):Int)else((s.i+n:Nat):Int))=((min (s.i+n) (c.T.length-1):Nat):Int):=by split<;>omega
 have hr:0≤((min (s.i+n) (c.T.length-1):Nat):Int)∧((min (s.i+n) (c.T.length-1):Nat):Int)<((c.T.length:Nat):Int):=by omega
 refine C_in Tryz.func124 rfl rfl (by kernel_rfl) (aG rfl) ?_;simp only[↓zp,zw,aA];refine bR 19 (by kernel_rfl) (by kernel_rfl) (by kernel_rfl) ?_;simp only[↓zp,zw,aA,bE hb,hpl,hbt,w1,w2,w3,hr,aF,hld,zP,zO];exact⟨rfl,Ext.push _ _ _⟩
theorem is_c{h:Heap}{c:PC}{L:Nat}{U:List Nat}{s:St}(hp:PS h c L U s)(x:List UInt8):C aE 73 #[.pointer (some ⟨c.p,0,none⟩),.string ⟨x.toArray⟩] h fun e h'=>e=.returned (.bool (isT c.T s x))∧Ext [] h h':=by
 refine C_in Tryz.func73 rfl rfl (by kernel_rfl) (aG rfl) ?_;simp only[↓zp,zw,aA];refine bH (eC hp) ?_;rintro e h1 ⟨rfl,hE1⟩;simp only[↓zp,zw,aA];refine bH (fT _ _) ?_;rintro e h2 ⟨rfl,hE2⟩;simp only[↓zp,zw,aA];exact⟨rfl,hE1.trans hE2⟩
theorem PS.setI {h h':Heap} {c:PC} {L:Nat} {U:List Nat} {s:St} {i:Nat} {vl:Value} (hp:PS h c L U s) (hb:Blk h c.p [c.vt,.int .i64 s.i,vl,c.va,c.vu,.map (some c.vm)] 61)
 (hb':Blk h' c.p [c.vt,.int .i64 i,vl,c.va,c.vu,.map (some c.vm)] 61) (hE:Ext [c.p] h h') (hs:h'.size=h.size) (hi:i<c.T.length):PS h' c L U {s with i:=i}∧Par c h L U h' L U:=by
 obtain⟨vl0,kvs,h1,h2,h3,h4,h5⟩:=hp.body
 have hvl:vl0=vl:=by
  have:=(Option.some.inj (h1.symm.trans hb));simp at this;exact this
 subst hvl;have hU:∀b,b∈[c.p]→b∉U:=fun b hb hm=>by simp at hb;exact(hp.used b hm).2.1 hb
 refine⟨{
  body:=⟨vl0,kvs,hb',h2.ext hE (fun b hb hm=>(h3 b hb).2 (by simpa using hm)),h3,h4,fun x hx=>(h5 x hx).ext hE hU⟩
  used:=fun b hb=>⟨by rw[hs];exact(hp.used b hb).1,(hp.used b hb).2⟩
  ltL:=by rw[hs];exact hp.ltL
  toks:=hp.toks.ext hE fun b hb hm=>hU b hm (hp.toksU b hb)
  toksU:=hp.toksU
  asg:=hp.asg.ext hE fun b hb hm=>hU b hm (hp.asgU b hb)
  asgU:=hp.asgU
  una:=hp.una.ext hE fun b hb hm=>hU b hm (hp.unaU b hb)
  unaU:=hp.unaU
  str:=hp.str.ext hE fun hm=>hU _ hm hp.strU
  strU:=hp.strU
  lt:=hi
  big:=hp.big
  eof:=hp.eof
  asc:=hp.asc},.inl rfl,fun _ h=> .inl h,hE.mono (by simp)⟩
theorem cX {h0 h:Heap} {c:PC} {L0 L:Nat} {U0 U:List Nat} {s:St} {k:Env→Heap→Prop} {ρ:Env} {dst:Option Nat} {i:Nat} {tk:Tok (dst,ρ,k)} (hp:PS h c L U s) (hq:Par c h0 L0 U0 h L U) (hi:i<c.T.length)
 (H:∀h1,PS h1 c L U {s with i:=i}→Par c h L U h1 L U→Par c h0 L0 U0 h1 L U→k (ρ.put dst undef) h1):WstT aE 3 (.pointer (some ⟨c.p,1,none⟩)) (.int .i64 (i:Int)) dst ρ h k tk:=by
 obtain⟨vl,hb⟩:=hp.p;refine bS hb (by kernel_rfl) (by simp) rfl fun h1 hb1 hE1 hs1=> ?_;simp only[oM,oN]at hb1;obtain⟨g1,g2⟩:=hp.setI hb hb1 hE1 hs1 hi;exact H h1 g1 g2 (hq.trans g2)
theorem eE{h:Heap}{c:PC}{L:Nat}{U:List Nat}{s:St}(hp:PS h c L U s)(x:List UInt8){r:Res Bool}(hr:eY c.T x s=r)(hne:r≠ .out):
 C aE 71 #[.pointer (some ⟨c.p,0,none⟩),.string ⟨x.toArray⟩] h (POut c h L U r .bool):=by
 refine C_in Tryz.func71 rfl rfl (by kernel_rfl) (aG rfl) ?_;simp only[↓zp,zw,aA];refine bH (is_c hp x) ?_;rintro e h1 ⟨rfl,hE1⟩;have hp1:=hp.ext0 hE1;obtain⟨vl,hb⟩:=hp1.p;simp only[↓zp,zw,aA];unfold eY at hr
 cases hx:isT c.T s x with
 |false=>
  simp only[hx,aI,if_false]at hr;simp only[↓zp,zw,aA,Bool.not_false];subst hr
  exact⟨rfl,L,U,hp1,Par.of_ext hE1⟩
 |true=>
  simp only[hx,if_true]at hr;split at hr
  ·rename_i hlt;have w1:IntKind.i64.wrap ((s.i:Int)+1)=((s.i+1:Nat):Int):=by have:=hp.big;rw[aU _ (by omega)];simp
   simp only[↓zp,zw,aA,Bool.not_true,bE hb,w1];refine cX hp1 (Par.of_ext hE1) hlt fun h2 hp2 _ hq2=> ?_;simp only[↓zp,zw,aA];subst hr;exact⟨rfl,L,U,hp2,hq2⟩
  ·exact absurd hr.symm hne
end
section
section
variable{h:Heap}{c:PC}{L:Nat}{U:List Nat}{s:St}
def vint(n:Nat):Value:=.int .i64 (n:Int)
def vstr(x:List UInt8):Value:=.string ⟨x.toArray⟩
theorem oS(hp:PS h c L U s):C aE 47 #[.pointer (some ⟨c.p,0,none⟩)] h fun e h'=>e=.panicked (perr (nowT c.T s).fr)∧Ext [] h h':=by
 refine C_in Tryz.func47 rfl rfl (by kernel_rfl) (aG rfl) ?_;simp only[↓zp,zw,aA];refine bH (eC hp) ?_;rintro e h1 ⟨rfl,hE1⟩;simp only[↓zp,zw,aA,Tk.cells];refine eF ?_;exact⟨rfl,hE1⟩
theorem cR(hp:PS h c L U s)(x:List UInt8){r:Res Nat}(hr:dA c.T x s=r)(hne:r≠ .out):
 C aE 100 #[.pointer (some ⟨c.p,0,none⟩),.string ⟨x.toArray⟩] h (POut c h L U r vint):=by
 refine C_in Tryz.func100 rfl rfl (by kernel_rfl) (aG rfl) ?_;simp only[↓zp,zw,aA];refine bH (eC hp) ?_;rintro e h1 ⟨rfl,hE1⟩;have hp1:=hp.ext0 hE1;simp only[↓zp,zw,aA,Tk.cells];unfold dA at hr
 cases hx:isT c.T s x with
 |false=>
  simp only[hx,aI,if_false]at hr;refine bH (eE hp1 x (r:=.ok false s) (by simp[eY,hx]) (by simp)) ?_;rintro e h2 ⟨rfl,L2,U2,hp2,hq2⟩;simp only[↓zp,zw,aA,Bool.not_false];refine bH (oS hp2) ?_;rintro e h3 ⟨rfl,hE3⟩;subst hr
  exact⟨rfl,((Par.of_ext hE1).trans (hq2.trans (Par.of_ext hE3))).E⟩
 |true=>
  simp only[hx,if_true]at hr;split at hr
  ·rename_i hlt;refine bH (eE hp1 x (r:=.ok true {s with i:=s.i+1}) (by simp[eY,hx,hlt]) (by simp)) ?_;rintro e h2 ⟨rfl,L2,U2,hp2,hq2⟩;simp only[↓zp,zw,aA,Bool.not_true];subst hr;exact⟨rfl,L2,U2,hp2,(Par.of_ext hE1).trans hq2⟩
  ·exact absurd hr.symm hne
theorem kP(hp:PS h c L U s){r:Res (List UInt8)}(hr:gW c.T s=r)(hne:r≠ .out):
 C aE 99 #[.pointer (some ⟨c.p,0,none⟩)] h (POut c h L U r vstr):=by
 refine C_in Tryz.func99 rfl rfl (by kernel_rfl) (aG rfl) ?_;simp only[↓zp,zw,aA];refine bH (eC hp) ?_;rintro e h1 ⟨rfl,hE1⟩;have hp1:=hp.ext0 hE1;simp only[↓zp,zw,aA,Tk.cells];unfold gW at hr;have hE2:Ext [] h (h1.push (.cells (nowT c.T s).cells.toArray 73)):=hE1.trans (Ext.push _ _ _);have hp2:=hp.ext0 hE2;refine uA (fun hk=> ?_) (fun hk=> ?_)
 ·simp only[bne_iff_ne,ne_eq]at hk;rw[if_neg (by omega)]at hr;simp only[↓zp,zw,aA];refine bH (oS hp2) ?_;rintro e h3 ⟨rfl,hE3⟩;subst hr;exact⟨rfl,(hE2.trans hE3).of_nil⟩
 ·simp only[bne_eq_false_iff_eq]at hk;rw[if_pos (by omega)]at hr;split at hr
  ·rename_i hlt;obtain⟨vl,hb⟩:=hp2.p;have w1:IntKind.i64.wrap ((s.i:Int)+1)=((s.i+1:Nat):Int):=by have:=hp.big;rw[aU _ (by omega)];simp
   have hn:h1.size<(h1.push (.cells (nowT c.T s).cells.toArray 73)).size:=by simp
   have hpl:c.p≠h1.size:=by have:=hp1.p.choose_spec.lt;omega
   have hpl':c.p<h1.size:=by have:=hp1.p.choose_spec.lt;omega
   simp only[↓zp,zw,aA,bE hp1.p.choose_spec,hpl',w1];refine cX hp2 (Par.of_ext hE2) hlt fun h3 hp3 hd3 hq3=> ?_;have hl:Loc (h1.push (.cells (nowT c.T s).cells.toArray 73)) c L U h1.size:=Loc.new hp1 (bA _) (by simp);have hb3:=hl.blk Blk.new hd3;simp only[↓zp,zw,aA,bE hb3,Tk.cells];subst hr;exact⟨rfl,L,U,hp3,hq3⟩
  ·exact absurd hr.symm hne
structure ParX(X:List Nat)(c:PC)(h:Heap)(L:Nat)(U:List Nat)(h':Heap)(L':Nat)(U':List Nat):Prop where
 hL:L'=L∨h.size≤L'
 hU:∀b,b∈U'→b∈U∨h.size≤b∨b∈X
 E:Ext [c.p,L] h h'
theorem Par.transX{X:List Nat}{h1 h2:Heap}{L1 L2:Nat}{U1 U2:List Nat}(a:Par c h L U h1 L1 U1)(b:ParX X c h1 L1 U1 h2 L2 U2)(hX:∀x,x∈X→h.size≤x):Par c h L U h2 L2 U2:=by
 refine⟨?_,?_,?_⟩
 ·rcases b.hL with e|e
  ·rw[e];exact a.hL
  ·exact .inr (Nat.le_trans a.E.1 e)
 ·intro x hx;rcases b.hU x hx with e|e|e
  ·exact a.hU x e
  ·exact .inr (Nat.le_trans a.E.1 e)
  ·exact .inr (hX x e)
 ·refine⟨Nat.le_trans a.E.1 b.E.1,fun i hi hx=> ?_⟩;rw[b.E.2 i (Nat.lt_of_lt_of_le hi a.E.1),a.E.2 i hi hx];simp only[List.mem_cons,List.not_mem_nil,or_false,not_or]at hx⊢;refine⟨hx.1,?_⟩;rcases a.hL with e|e
  ·rw[e];exact hx.2
  ·omega
theorem Loc.parX{X:List Nat}{h':Heap}{L':Nat}{U':List Nat}{b:Nat}(hb:Loc h c L U b)(hp:ParX X c h L U h' L' U')(hx:b∉X):Loc h' c L' U' b:=by
 refine⟨Nat.lt_of_lt_of_le hb.1 hp.E.1,hb.2.1,?_,fun hm=> ?_⟩
 ·rcases hp.hL with e|e
  ·rw[e];exact hb.2.2.1
  ·have:=hb.1;omega
 ·rcases hp.hU b hm with e|e|e
  ·exact hb.2.2.2 e
  ·have:=hb.1;omega
  ·exact hx e
theorem Loc.getX{X:List Nat}{h':Heap}{L':Nat}{U':List Nat}{b:Nat}(hb:Loc h c L U b)(hp:ParX X c h L U h' L' U'):h'[b]? =h[b]?:=
 hp.E.2 b hb.1 (by simp[hb.2.1,hb.2.2.1])
theorem Loc.blkX{X:List Nat}{h':Heap}{L':Nat}{U':List Nat}{b t:Nat}{l:List Value}(hb:Loc h c L U b)(hk:Blk h b l t)(hp:ParX X c h L U h' L' U'):Blk h' b l t:=(hb.getX hp).trans hk
theorem Kids.parX{X:List Nat}{h':Heap}{L':Nat}{U':List Nat}{v:Value}{ks:List Nat}(hk:Kids h c L U v ks)(hp:ParX X c h L U h' L' U')(hx:∀b,b∈blks v→b∉X):Kids h' c L' U' v ks:=
 ⟨hk.1.ext hp.E fun b hb hm=>by
  have:=hk.2 b hb;simp only[List.mem_cons,List.not_mem_nil,or_false]at hm;rcases hm with e|e
  ·exact this.2.1 e
  ·exact this.2.2.1 e,fun b hb=>(hk.2 b hb).parX hp (hx b hb)⟩
def uC{α:Type}(X:List Nat)(c:PC)(h:Heap)(L:Nat)(U:List Nat)(r:Res α)(val:α→Value)(e:Ending)(h':Heap):Prop:=match r with
 | .ok a s'=>e=.returned (val a)∧∃L' U',PS h' c L' U' s'∧ParX X c h L U h' L' U'
 | .err p=>e=.panicked (perr p)∧Ext [c.p,L] h h'
 | .out=>False
theorem oF(hp:PS h c L U s)(x:Nd)(vk:Value)(hk:Kids h c L U vk x.kids){r:Res Nat}(hr:addN x s=r)(hne:r≠ .out):
 C aE 72 #[.pointer (some ⟨c.p,0,none⟩),.agg (bM (x,vk)).toArray] h (uC (blks vk) c h L U r vint):=by
 refine C_in Tryz.func72 rfl rfl (by kernel_rfl) (aG rfl) ?_;unfold addN at hr;split at hr
 ·rename_i hm;obtain⟨vl,kvs,hb,hrow,hvl,hkl,hall⟩:=hp.body;have hpl:=hb.lt;simp only[↓zp,zw,aA];have hE1:Ext [] h (h.push (.cells (bM (x,vk)).toArray 35)):=Ext.push _ _ _;refine fW 8 [(0,true),(1,true),(2,true),(3,true),(4,true),(5,true),(6,false),(7,false)] (fun h'=>Ext (blks vl) (h.push (.cells (bM (x,vk)).toArray 35)) h') (by kernel_rfl) (by kernel_rfl) (Ext.refl _ _) ?_;have hpv:c.p∉blks vl:=fun hm=>(hvl _ hm).2 rfl;have hnv:h.size∉blks vl:=fun hm=>by have:=(hvl _ hm).1;have:=hp.ltL;omega
  have hb1:Blk (h.push (.cells (bM (x,vk)).toArray 35)) c.p [c.vt,.int .i64 s.i,vl,c.va,c.vu,.map (some c.vm)] 61:=hb.ext hE1 (by simp);simp only[Wo,fI,fP,if_true,aI,if_false]
  iterate 4 refine⟨_,.inl fun h' hS'=>by simp only[rdOp,↓zp,zw,aA];rfl,?_⟩
  refine⟨_,.inl fun h' hS'=>by simp only[rdOp,↓zp,zw,aA,bE (hb1.ext hS' hpv)];rfl,?_⟩;refine⟨_,.inl fun h' hS'=>by simp only[rdOp,↓zp,zw,aA,bQ (Blk.new.ext hS' hnv) (cU _)];rfl,?_⟩;refine cY rfl ?_;simp only[↓zp,zw,aA];refine Wbs_agg (e:=35) Tryz.underlying23 (by kernel_rfl) (cU _) (by omega) fun v2 h2 hr2 hb2 hE2 hs2=> ?_;refine⟨hE2.of_nil,?_⟩;refine cY rfl ?_;simp only[↓zp,zw,aA];have hE02:Ext [] h h2:=hE1.trans hE2;have hrow2:=hrow.ext hE02 (by simp)
  have hone:one' (bM (x,vk))=true:=by
   obtain⟨a,n,cc,rfl,_⟩:=hk.1.shape
   rfl
  have hlen:((s.ns.zip kvs).flatMap bM).length=s.ns.length*6:=by rw[kQ bM 6 cU,List.length_zip,hkl];simp
  refine fX (n:=1) (tx:=23) (e:=35) (sz:=6) (news:=bM (x,vk)) hrow2 Tryz.underlying23 (by kernel_rfl) (fun w hw=>by
   obtain⟨n,hn,hs⟩:=hr2.src (P:=aE) (tx:=23) (e':=35) Tryz.underlying23 hone w hw;have:n=1:=by rw[cU]at hn;omega
   subst this;exact hs) (by rw[hlen,cU];have:=hm.1;unfold most at this;omega) fun v3 h3 hr3 hc3=> ?_
  have hE3:Ext (blks vl) h2 h3:=by
   rcases hc3 with⟨_,e,_⟩|⟨_,e,_⟩
   ·exact e
   ·exact e.of_nil
  have hE03:Ext (blks vl) h h3:=hE02.of_nil.trans hE3;have hs3:h2.size≤h3.size:=hE3.1;have hb3:=hb.ext hE03 hpv;have hz2:h2.size=h.size+2:=by rw[hs2];simp
  refine⟨hE2.of_nil.trans hE3,?_⟩;simp only[List.drop_succ_cons,List.drop_zero];simp only[↓zp,zw,aA];refine bS hb3 (by kernel_rfl) (by simp) (by obtain⟨a,n,cc,rfl,_⟩:=hr3.shape;rfl) fun h4 hb4 hE4 hs4=> ?_;simp only[oM,oN]at hb4;have hpl4:=hb4.lt;obtain⟨a,n,cc,rfl,hn⟩:=hr3.shape;have hn':n=s.ns.length+1:=by rw[aC,hlen,cU]at hn;omega
  subst hn';have w1:IntKind.i64.wrap (((s.ns.length+1:Nat):Int)-1)=((s.ns.length:Nat):Int):=by have:=hm.1;unfold most at this;rw[aU _ (by omega)];omega
  simp only[↓zp,zw,aA,bE hb4,hpl4,w1];subst hr;refine⟨rfl,?_⟩;have hE04:Ext (c.p::blks vl) h h4:=(hE03.mono (fun b hb=>List.mem_cons_of_mem _ hb)).trans (hE4.mono (by simp))
  have hX:∀b,b∈U→b∉c.p::blks vl:=fun b hb hm=>by
   have:=hp.used b hb;rcases List.mem_cons.1 hm with e|e
   ·exact this.2.1 e
   ·exact this.2.2 (hvl b e).1
  have hXk:∀b,b∈blks vk→b∉c.p::blks vl:=fun b hb hm=>by
   have:=hk.2 b hb;rcases List.mem_cons.1 hm with e|e
   ·exact this.2.1 e
   ·exact this.2.2.1 (hvl b e).1
  have hV:(blks (.slice a (s.ns.length+1) cc)=blks vl∨blks (.slice a (s.ns.length+1) cc)=[h2.size]):=by
   rcases hc3 with⟨e,_⟩|⟨e,_⟩
   ·exact .inl e
   ·exact .inr e
  have hVp:∀b,b∈blks (.slice a (s.ns.length+1) cc)→b≠c.p:=fun b hb=>by
   rcases hV with e|e
   ·rw[e]at hb;exact(hvl b hb).2
   ·rw[e]at hb;simp at hb;omega
  have hlt3:∀b,b∈blks (.slice a (s.ns.length+1) cc)→b<h4.size:=fun b hb=>by rw[hs4];exact hr3.lt b hb
  obtain⟨L',hL',hL2,hL3⟩:∃L',(∀b,b∈blks (.slice a (s.ns.length+1) cc)→b=L')∧(L'=L∨h.size≤L')∧L'<h4.size:=by
   rcases hV with e|e
   ·exact⟨L,fun b hb=>(hvl b (by rw[←e];exact hb)).1,.inl rfl,Nat.lt_of_lt_of_le hp.ltL hE04.1⟩
   ·exact⟨h2.size,fun b hb=>by rw[e]at hb;simpa using hb,.inr (by omega),hlt3 _ (by rw[e];simp)⟩
  have hLu:∀b,b<h.size→b≠L→b≠L':=fun b h1 h2=>by
   rcases hL2 with e|e
   ·rw[e];exact h2
   ·omega
  refine⟨L',U++blks vk,{
   body:=⟨.slice a (s.ns.length+1) cc,kvs++[vk],hb4,?_,fun b hb=>⟨hL' b hb,hVp b hb⟩,by simp[hkl],fun y hy=> ?_⟩
   used:=fun b hb=> ?_
   ltL:=hL3
   toks:=hp.toks.ext hE04 fun b hb=>hX b (hp.toksU b hb)
   toksU:=fun b hb=>List.mem_append_left _ (hp.toksU b hb)
   asg:=hp.asg.ext hE04 fun b hb=>hX b (hp.asgU b hb)
   asgU:=fun b hb=>List.mem_append_left _ (hp.asgU b hb)
   una:=hp.una.ext hE04 fun b hb=>hX b (hp.unaU b hb)
   unaU:=fun b hb=>List.mem_append_left _ (hp.unaU b hb)
   str:=hp.str.ext hE04 (hX _ hp.strU)
   strU:=List.mem_append_left _ hp.strU
   lt:=hp.lt
   big:=hp.big
   eof:=hp.eof
   asc:=hp.asc},⟨hL2,fun b hb=> ?_,?_⟩⟩
  ·rw[List.zip_append hkl.symm];simp only[List.flatMap_append];have:([x].zip [vk]).flatMap bM=bM (x,vk):=by simp
   rw[this];exact hr3.ext hE4 fun b hb hm=>hVp b hb (by simpa using hm)
  ·rw[List.zip_append hkl.symm]at hy;rcases List.mem_append.1 hy with hy|hy
   ·have:=hall y hy;exact⟨this.1.ext hE04 fun b hb=>hX b (this.2 b hb),fun b hb=>List.mem_append_left _ (this.2 b hb)⟩
   ·simp at hy;subst hy;exact⟨hk.1.ext hE04 fun b hb=>hXk b hb,fun b hb=>List.mem_append_right _ hb⟩
  ·rcases List.mem_append.1 hb with hb|hb
   ·have:=hp.used b hb;exact⟨Nat.lt_of_lt_of_le this.1 hE04.1,this.2.1,hLu b this.1 this.2.2⟩
   ·have:=hk.2 b hb;exact⟨Nat.lt_of_lt_of_le this.1 hE04.1,this.2.1,hLu b this.1 this.2.2.1⟩
  ·rcases List.mem_append.1 hb with hb|hb
   ·exact .inl hb
   ·exact .inr (.inr hb)
  ·exact hE04.mono fun b hb=>by
    rcases List.mem_cons.1 hb with e|e
    ·subst e;simp
    ·simp[(hvl b e).1]
 ·exact absurd hr.symm hne
end
end
section
section
variable{h:Heap}{c:PC}{L:Nat}{U:List Nat}{s:St}
theorem bT(hp:PS h c L U s)(kind pos:Nat)(kids:List Nat)(vk:Value)(hk:Kids h c L U vk kids){r:Res Nat}(hr:cP kind pos kids s=r)(hne:r≠ .out):
 C aE 43 #[.pointer (some ⟨c.p,0,none⟩),.int .i64 (kind:Int),.int .i64 (pos:Int),vk] h (uC (blks vk) c h L U r vint):=by
 obtain⟨a,n,cc,rfl,hn⟩:=hk.1.shape;refine C_in Tryz.func43 rfl rfl (by kernel_rfl) (aG rfl) ?_;simp only[↓zp,zw,aA];refine bH (oF hp {kind,text:=[],str:=[],num:=0,kids,pos} _ hk hr hne) ?_;intro e h1 hR
 cases r with
 |ok x s1=>
  obtain⟨rfl,L1,U1,hp1,hq1⟩:=hR;simp only[↓zp,zw,aA,vint]
  exact⟨rfl,L1,U1,hp1,hq1⟩
 |err p=>obtain⟨rfl,hE⟩:=hR;exact⟨rfl,hE⟩
 |out=>exact absurd rfl hne
theorem cO(hp:PS h c L U s)(kind:Nat)(text:List UInt8)(pos:Nat)(kids:List Nat)(vk:Value)(hk:Kids h c L U vk kids){r:Res Nat}(hr:eM kind text pos kids s=r)(hne:r≠ .out):
 C aE 98 #[.pointer (some ⟨c.p,0,none⟩),.int .i64 (kind:Int),.string ⟨text.toArray⟩,.int .i64 (pos:Int),vk] h (uC (blks vk) c h L U r vint):=by
 obtain⟨a,n,cc,rfl,hn⟩:=hk.1.shape;refine C_in Tryz.func98 rfl rfl (by kernel_rfl) (aG rfl) ?_;simp only[↓zp,zw,aA];refine bH (oF hp {kind,text,str:=[],num:=0,kids,pos} _ hk hr hne) ?_;intro e h1 hR
 cases r with
 |ok x s1=>
  obtain⟨rfl,L1,U1,hp1,hq1⟩:=hR;simp only[↓zp,zw,aA,vint]
  exact⟨rfl,L1,U1,hp1,hq1⟩
 |err p=>obtain⟨rfl,hE⟩:=hR;exact⟨rfl,hE⟩
 |out=>exact absurd rfl hne
theorem PS.nodeAt(hp:PS h c L U s){n:Nat}{x:Nd}(hx:s.ns[n]? =some x):∃b cap kv,Blk h c.p [c.vt,.int .i64 s.i,.slice (some ⟨b,0,none⟩) s.ns.length cap,c.va,c.vu,.map (some c.vm)] 61∧b<h.size∧
 (∀j,j<6→bG h b (n*6+j)=(bM (x,kv))[j]?)∧KidsOk h U (x,kv):=by
 obtain⟨vl,kvs,hb,hrow,hvl,hkl,hall⟩:=hp.body;have hn:n<s.ns.length:=(List.getElem?_eq_some_iff.1 hx).1;have hlen:((s.ns.zip kvs).flatMap bM).length=s.ns.length*6:=by rw[kQ bM 6 cU,List.length_zip,hkl];simp
 obtain⟨b,m,cap,cs,rfl,hbk,hm,htk,hcl⟩:=hrow.open (by omega);have hmn:m=s.ns.length:=by omega
 subst hmn;have hkv:kvs[n]? =some (kvs[n]'(by omega)):=aS _;have hz:(s.ns.zip kvs)[n]? =some (x,kvs[n]'(by omega)):=by rw[List.getElem?_zip_eq_some];exact⟨hx,hkv⟩
 refine⟨b,cap,_,hb,hbk.lt,fun j hj=> ?_,hall _ (List.mem_of_getElem? hz)⟩;rw[Row.cell (n:=s.ns.length) (cap:=cap) hbk htk (by rw[hlen];omega),fm_get bM 6 cU _ _ _ _ hz hj]
theorem at_c(hp:PS h c L U s)(n:Nat){r:Res Nat}(hr:posM n s=r)(hne:r≠ .out):
 C aE 44 #[.pointer (some ⟨c.p,0,none⟩),.int .i64 (n:Int)] h (POut c h L U r vint):=by
 unfold posM at hr;split at hr
 ·rename_i x hx;obtain⟨b,cap,kv,hb,hbl,hcell,_⟩:=hp.nodeAt hx;have hpl:=hb.lt;have hn:0≤(n:Int)∧(n:Int)<(s.ns.length:Nat):=by have:=(List.getElem?_eq_some_iff.1 hx).1;omega
  have hc5:=hcell 5 (by omega);simp only[bM,fI,fP]at hc5;refine C_in Tryz.func44 rfl rfl (by kernel_rfl) (aG rfl) ?_;simp only[↓zp,zw,aA,bE hb,hpl,hn,aF,hc5];subst hr;exact⟨rfl,L,U,hp,Par.refl _ _ _ _⟩
 ·exact absurd hr.symm hne
theorem lC(hp:PS h c L U s)(n:Nat){r:Res Bool}(hr:kF n s=r)(hne:r≠ .out):
 C aE 103 #[.pointer (some ⟨c.p,0,none⟩),.int .i64 (n:Int)] h (POut c h L U r .bool):=by
 unfold kF at hr;split at hr
 ·rename_i x hx;obtain⟨b,cap,kv,hb,hbl,hcell,_⟩:=hp.nodeAt hx;have hpl:=hb.lt;have hn:0≤(n:Int)∧(n:Int)<(s.ns.length:Nat):=by have:=(List.getElem?_eq_some_iff.1 hx).1;omega
  have hc5:=hcell 0 (by omega);simp only[bM,fI,fP,Nat.add_zero]at hc5;have e6:((x.kind:Int)==6)=(x.kind==6):=by rw[aW];simp;omega
  have e17:((x.kind:Int)==17)=(x.kind==17):=by rw[aW];simp;omega
  have e18:((x.kind:Int)==18)=(x.kind==18):=by rw[aW];simp;omega
  refine C_in Tryz.func103 rfl rfl (by kernel_rfl) (aG rfl) ?_;simp only[↓zp,zw,aA,bE hb,hpl,hn,aF,hc5,e6,e17,e18];subst hr;cases h6:x.kind==6<;>simp only[↓zp,zw,aA,h6,e17,e18]
  ·cases h17:x.kind==17<;>simp only[↓zp,zw,aA,h17,e18]
   ·exact⟨by simp[h6,h17],L,U,hp,Par.refl _ _ _ _⟩
   ·exact⟨by simp[h6,h17],L,U,hp,Par.refl _ _ _ _⟩
  ·exact⟨by simp[h6],L,U,hp,Par.refl _ _ _ _⟩
 ·exact absurd hr.symm hne
theorem rP(hp:PS h c L U s)(n:Nat)(hn:n≤1999999):
 C aE 104 #[.pointer (some ⟨c.p,0,none⟩),.int .i64 (n:Int)] h fun e h'=>e=.returned (.bool (eQ c.T s n))∧Ext [] h h':=by
 have w1:IntKind.i64.wrap ((n:Int)+1)=((n+1:Nat):Int):=by rw[aU _ (by omega)];simp
 have e1:(((bU c.T s n).kind:Int)==1)=((bU c.T s n).kind==1):=by rw[aW];simp;omega
 refine C_in Tryz.func104 rfl rfl (by kernel_rfl) (aG rfl) ?_;simp only[↓zp,zw,aA];refine bH (eV hp n (by omega)) ?_;rintro e h1 ⟨rfl,hE1⟩;simp only[↓zp,zw,aA,Tk.cells,e1];cases hk:(bU c.T s n).kind==1<;>simp only[↓zp,zw,aA,hk,w1]
 ·exact⟨by simp[eQ,hk],hE1⟩
 ·refine bH (eV (hp.ext0 hE1) (n+1) (by omega)) ?_;rintro e h2 ⟨rfl,hE2⟩;simp only[↓zp,zw,aA];refine bH (fT _ _) ?_;rintro e h3 ⟨rfl,hE3⟩;simp only[↓zp,zw,aA];exact⟨by simp[eQ,hk],(hE1.trans hE2).trans hE3⟩
theorem iP(hp:PS h c L U s){r:Res Unit}(hr:endT c.T s=r)(hne:r≠ .out):
 C aE 107 #[.pointer (some ⟨c.p,0,none⟩)] h (POut c h L U r fun _=> .tuple #[]):=by
 refine C_in Tryz.func107 rfl rfl (by kernel_rfl) (aG rfl) ?_;simp only[↓zp,zw,aA];refine bH (eC hp) ?_;rintro e h1 ⟨rfl,hE1⟩;have hp1:=hp.ext0 hE1;simp only[↓zp,zw,aA,Tk.cells];have hE2:Ext [] h (h1.push (.cells (nowT c.T s).cells.toArray 73)):=hE1.trans (Ext.push _ _ _);have hp2:=hp.ext0 hE2;unfold endT at hr
 cases hx:isT c.T s [59]with
 |true=>
  simp only[hx,if_true]at hr;split at hr
  ·rename_i hlt;refine bH (eE hp2 [59] (r:=.ok true {s with i:=s.i+1}) (by simp only[eY,hx,hlt,if_true]) (by simp)) ?_;rintro e h3 ⟨rfl,L3,U3,hp3,hq3⟩;simp only[↓zp,zw,aA,Bool.not_true];subst hr;exact⟨rfl,L3,U3,hp3,(Par.of_ext hE2).trans hq3⟩
  ·exact absurd hr.symm hne
 |false=>
  simp only[hx,aI,if_false]at hr;have hl:Loc (h1.push (.cells (nowT c.T s).cells.toArray 73)) c L U h1.size:=Loc.new hp1 (bA _) (by simp);have e0:(((nowT c.T s).kind:Int) !=0)= !((nowT c.T s).kind==0):=by rw[aW];simp
  refine bH (eE hp2 [59] (r:=.ok false s) (by simp[eY,hx]) (by simp)) ?_;rintro e h3 ⟨rfl,L3,U3,hp3,hq3⟩;have hb3:=hl.blk Blk.new hq3;have hl3:=hl.par hq3;simp only[↓zp,zw,aA,Bool.not_false];refine bH (is_c hp3 [125]) ?_;rintro e h4 ⟨rfl,hE4⟩;have hp4:=hp3.ext0 hE4;have hb4:=hb3.ext hE4 (by simp);have hq4:=((Par.of_ext (c:=c) (L:=L) (U:=U) hE2).trans hq3).trans (Par.of_ext hE4);simp only[↓zp,zw,aA];cases h5:isT c.T s [125]<;>simp only[h5,Bool.true_or,Bool.false_or,if_true]at hr
  ·simp only[↓zp,zw,aA,h5,Bool.not_false,bE hb4,Tk.cells,e0];cases h0:(nowT c.T s).kind==0
   ·simp only[h0,Bool.false_or]at hr;simp only[↓zp,zw,aA,h0,Bool.not_false,bE hb4,Tk.cells];cases hl:(nowT c.T s).line
    ·simp only[hl,aI,if_false]at hr;simp only[↓zp,zw,aA,hl,Bool.not_false];refine bH (oS hp4) ?_;rintro e h6 ⟨rfl,hE6⟩;subst hr;exact⟨rfl,iE hq4 hE6.of_nil⟩
    ·simp only[hl,if_true]at hr;simp only[↓zp,zw,aA,hl,Bool.not_true];subst hr;exact⟨rfl,L3,U3,hp4,hq4⟩
   ·simp only[h0,Bool.true_or,if_true]at hr;simp only[↓zp,zw,aA,h0,Bool.not_true];subst hr;exact⟨rfl,L3,U3,hp4,hq4⟩
  ·simp only[↓zp,zw,aA,h5,Bool.not_true];subst hr;exact⟨rfl,L3,U3,hp4,hq4⟩
end
end
section
section
variable{T:List Tk}{s:St}
theorem ahead_eof(he:(T.getD (T.length-1) default).kind=0){n:Nat}(hn:T.length≤s.i+n+1):(bU T s n).kind=0:=by
 unfold bU;rw[Nat.min_eq_right (by omega)];exact he
theorem qC(he:(T.getD (T.length-1) default).kind=0){n:Nat}(hk:(bU T s n).kind=1):s.i+n+1<T.length:=by
 rcases Nat.lt_or_ge (s.i+n+1) T.length with h|h
 ·exact h
 ·have:=ahead_eof (s:=s) he h;omega
theorem wJ(he:(T.getD (T.length-1) default).kind=0):∀(f n:Nat),1≤f→T.length+1≤f+n→∃b,gM T s f n=some b:=by
 intro f
 induction f with
 |zero=>intro n h;omega
 |succ f ih=>
  intro n _ hn;unfold gM;split
  ·exact⟨_,rfl⟩
  ·dsimp only;generalize hn':(if((bU T s n).txt==([46,46,46]:List UInt8))=true then n+1 else n)=n';have hle:n≤n':=by rw[←hn'];split<;>omega
   split
   ·exact⟨_,rfl⟩
   ·rename_i hk;have:=qC (s:=s) he (n:=n') (by omega);split
    ·exact ih _ (by omega) (by omega)
    ·split
     ·exact⟨_,rfl⟩
     ·exact ih _ (by omega) (by omega)
end
theorem kD{h:Heap}{c:PC}{L:Nat}{U:List Nat}{s:St}(hp:PS h c L U s):C aE 124 #[.pointer (some ⟨c.p,0,none⟩),.int .i64 1] h fun e h'=>e=.returned (.agg (bU c.T s 1).cells.toArray)∧Ext [] h h':=eV hp 1 (by omega)
theorem arrow_c{h:Heap}{c:PC}{L:Nat}{U:List Nat}{s:St}(hp:PS h c L U s):
 C aE 96 #[.pointer (some ⟨c.p,0,none⟩)] h fun e h'=>e=.returned (.bool (lV c.T s))∧Ext [] h h':=by
 have e1:(((nowT c.T s).kind:Int) !=1)= !((nowT c.T s).kind==1):=by rw[aW];simp;omega
 have hbig:=hp.big;refine C_in Tryz.func96 rfl rfl (by kernel_rfl) (aG rfl) ?_;simp only[↓zp,zw,↓reduceIte,aA];refine bH (eC hp) ?_;rintro e h1 ⟨rfl,hE1⟩;have hp1:=hp.ext0 hE1;simp only[↓zp,zw,↓reduceIte,aA,Tk.cells,e1];cases hk:(nowT c.T s).kind==1
 ·simp only[↓zp,zw,↓reduceIte,aA,hk,Bool.not_false];refine bH (is_c hp1 [40]) ?_;rintro e h2 ⟨rfl,hE2⟩;have hE02:=hE1.trans hE2;simp only[↓zp,zw,↓reduceIte,aA];simp only[beq_eq_false_iff_ne,ne_eq]at hk;cases hx:isT c.T s [40]
  ·simp only[↓zp,zw,↓reduceIte,aA,hx,Bool.not_false];exact⟨by unfold lV;rw[if_neg hk,if_neg (by rw[hx];simp)],hE02⟩
  ·simp only[↓zp,zw,↓reduceIte,aA,hx,Bool.not_true];obtain⟨r0,hr0⟩:=wJ (s:=s) hp.eof (c.T.length+3) 1 (by omega) (by omega);have hres:lV c.T s=r0:=by unfold lV;rw[if_neg hk,if_pos hx,hr0];rfl
   refine⟨fun f ρ h'=>Ext [] h h'∧ρ 0=.pointer (some ⟨c.p,0,none⟩)∧∃n:Nat,ρ 3=.int .i64 (n:Int)∧n≤c.T.length+5∧gM c.T s f n=some r0,c.T.length+3,⟨hE02,by simp only[↓zp,zw,↓reduceIte,aA],1,by simp only[↓zp,zw,↓reduceIte,aA];rfl,by omega,hr0⟩,?_⟩;rintro f ρ h' ⟨hE,g0,n,g3,hn,hf⟩
   cases f with
   |zero=>simp[gM]at hf
   |succ f=>
   have w1:IntKind.i64.wrap ((n:Int)+1)=((n+1:Nat):Int):=by rw[aU _ (by omega)];simp
   have hp3:=hp.ext0 hE;simp only[↓zp,zw,↓reduceIte,aA,g0,g3];refine bH (eV hp3 n (by omega)) ?_;rintro e h4 ⟨rfl,hE4⟩;simp only[↓zp,zw,↓reduceIte,aA];refine bH (fT _ _) ?_;rintro e h5 ⟨rfl,hE5⟩;have hE05:=(hE.trans hE4).trans hE5;have hp5:=hp.ext0 hE05;simp only[↓zp,zw,↓reduceIte,aA];unfold gM at hf;cases hz:(bU c.T s n).txt==([41]:List UInt8)
   ·rw[if_neg (by rw[hz];simp)]at hf;dsimp only at hf;simp only[↓zp,zw,↓reduceIte,aA,hz,Bool.not_false,g0,g3];refine bH (eV hp5 n (by omega)) ?_;rintro e h4 ⟨rfl,hE4⟩;simp only[↓zp,zw,↓reduceIte,aA];refine bH (fT _ _) ?_;rintro e h5 ⟨rfl,hE5⟩;have hE05:=(hE05.trans hE4).trans hE5;have hp5:=hp.ext0 hE05;simp only[↓zp,zw,↓reduceIte,aA];cases hrest:(bU c.T s n).txt==([46,46,46]:List UInt8)
    ·simp only[↓zp,zw,↓reduceIte,aA,hrest,g0,g3];rw[hrest]at hf;simp only[aI,if_false]at hf;have w2:IntKind.i64.wrap (((n:Nat):Int)+1)=((n+1:Nat):Int):=by rw[aU _ (by omega)];simp
     have e2:(((bU c.T s (n)).kind:Int) !=1)= !((bU c.T s (n)).kind==1):=by rw[aW];simp;omega
     refine bH (eV hp5 (n) (by omega)) ?_;rintro e h6 ⟨rfl,hE6⟩;have hp6:=hp5.ext0 hE6;have hE06:=hE05.trans hE6;simp only[↓zp,zw,↓reduceIte,aA,Tk.cells,e2];cases hk2:(bU c.T s (n)).kind==1
     ·simp only[↓zp,zw,↓reduceIte,aA,hk2,Bool.not_false];simp only[beq_eq_false_iff_ne,ne_eq]at hk2;rw[if_pos hk2]at hf;exact⟨by rw[hres];have:=Option.some.inj hf;rw[←this],hE06⟩
     ·simp only[↓zp,zw,↓reduceIte,aA,hk2,Bool.not_true,w2,g0,g3];simp only[beq_iff_eq]at hk2;rw[if_neg (by omega)]at hf;have hlt:=qC (s:=s) hp.eof hk2;refine bH (eV hp6 (n+1) (by omega)) ?_;rintro e h7 ⟨rfl,hE7⟩;simp only[↓zp,zw,↓reduceIte,aA];refine bH (fT _ _) ?_;rintro e h8 ⟨rfl,hE8⟩;have hE08:=(hE06.trans hE7).trans hE8;have hp8:=hp6.ext0 (hE7.trans hE8);simp only[↓zp,zw,↓reduceIte,aA];cases hc:(bU c.T s (n+1)).txt==([44]:List UInt8)
      ·rw[hc]at hf;simp only[Bool.false_and,aI,if_false]at hf;simp only[↓zp,zw,↓reduceIte,aA,hc,g0,g3];cases hq:(bU c.T s (n+1)).txt==([41]:List UInt8)
       ·simp only[↓zp,zw,↓reduceIte,aA,hq,Bool.not_false,g0,g3];simp only[bne,hq,Bool.not_false,if_true]at hf;exact⟨by rw[hres];have:=Option.some.inj hf;rw[←this],hE08⟩
       ·simp only[↓zp,zw,↓reduceIte,aA,hq,Bool.not_true,g0,g3];simp only[bne,hq,Bool.not_true,aI,if_false]at hf;exact⟨f,by omega,hE08,by simp only[↓zp,zw,↓reduceIte,aA,g0],n+1,by simp only[↓zp,zw,↓reduceIte,aA,g3],by omega,hf⟩
      ·have hq:((bU c.T s (n+1)).txt==([41]:List UInt8))=false:=by simp only[beq_iff_eq]at hc;rw[hc];decide
       have w4:IntKind.i64.wrap (((n+1:Nat):Int)+1)=((n+1+1:Nat):Int):=by rw[aU _ (by omega)];simp
       rw[hc]at hf;simp only[↓zp,zw,↓reduceIte,aA,hc,Bool.not_false,hrest,g0,g3,w4];refine bH (eV hp8 (n+1+1) (by omega)) ?_;rintro e h9 ⟨rfl,hE9⟩;simp only[↓zp,zw,↓reduceIte,aA];refine bH (fT _ _) ?_;rintro e h10 ⟨rfl,hE10⟩;have hE010:=(hE08.trans hE9).trans hE10;simp only[↓zp,zw,↓reduceIte,aA];cases hz2:(bU c.T s (n+1+1)).txt==([41]:List UInt8)
       ·simp only[bne,hz2,Bool.true_and,Bool.not_false,if_true]at hf;simp only[↓zp,zw,↓reduceIte,aA,hz2,Bool.not_false,g0,g3,w4];exact⟨f,by omega,hE010,by simp only[↓zp,zw,↓reduceIte,aA,g0],n+1+1,by simp only[↓zp,zw,↓reduceIte,aA,g3],by omega,hf⟩
       ·simp only[bne,hz2,hq,Bool.true_and,Bool.not_true,Bool.not_false,Bool.and_false,aI,if_false,if_true]at hf;simp only[↓zp,zw,↓reduceIte,aA,hz2,hc,hq,Bool.not_true,Bool.not_false,g0,g3];exact⟨by rw[hres];have:=Option.some.inj hf;rw[←this],hE010⟩
    ·simp only[↓zp,zw,↓reduceIte,aA,hrest,g0,g3,w1];rw[hrest]at hf;simp only[if_true]at hf;have w2:IntKind.i64.wrap (((n+1:Nat):Int)+1)=((n+1+1:Nat):Int):=by rw[aU _ (by omega)];simp
     have e2:(((bU c.T s (n+1)).kind:Int) !=1)= !((bU c.T s (n+1)).kind==1):=by rw[aW];simp;omega
     refine bH (eV hp5 (n+1) (by omega)) ?_;rintro e h6 ⟨rfl,hE6⟩;have hp6:=hp5.ext0 hE6;have hE06:=hE05.trans hE6;simp only[↓zp,zw,↓reduceIte,aA,Tk.cells,e2];cases hk2:(bU c.T s (n+1)).kind==1
     ·simp only[↓zp,zw,↓reduceIte,aA,hk2,Bool.not_false];simp only[beq_eq_false_iff_ne,ne_eq]at hk2;rw[if_pos hk2]at hf;exact⟨by rw[hres];have:=Option.some.inj hf;rw[←this],hE06⟩
     ·simp only[↓zp,zw,↓reduceIte,aA,hk2,Bool.not_true,w2,g0,g3];simp only[beq_iff_eq]at hk2;rw[if_neg (by omega)]at hf;have hlt:=qC (s:=s) hp.eof hk2;refine bH (eV hp6 (n+1+1) (by omega)) ?_;rintro e h7 ⟨rfl,hE7⟩;simp only[↓zp,zw,↓reduceIte,aA];refine bH (fT _ _) ?_;rintro e h8 ⟨rfl,hE8⟩;have hE08:=(hE06.trans hE7).trans hE8;have hp8:=hp6.ext0 (hE7.trans hE8);simp only[↓zp,zw,↓reduceIte,aA];cases hc:(bU c.T s (n+1+1)).txt==([44]:List UInt8)
      ·rw[hc]at hf;simp only[Bool.false_and,aI,if_false]at hf;simp only[↓zp,zw,↓reduceIte,aA,hc,g0,g3];cases hq:(bU c.T s (n+1+1)).txt==([41]:List UInt8)
       ·simp only[↓zp,zw,↓reduceIte,aA,hq,Bool.not_false,g0,g3];simp only[bne,hq,Bool.not_false,if_true]at hf;exact⟨by rw[hres];have:=Option.some.inj hf;rw[←this],hE08⟩
       ·simp only[↓zp,zw,↓reduceIte,aA,hq,Bool.not_true,g0,g3];simp only[bne,hq,Bool.not_true,aI,if_false]at hf;exact⟨f,by omega,hE08,by simp only[↓zp,zw,↓reduceIte,aA,g0],n+1+1,by simp only[↓zp,zw,↓reduceIte,aA,g3],by omega,hf⟩
      ·have hq:((bU c.T s (n+1+1)).txt==([41]:List UInt8))=false:=by simp only[beq_iff_eq]at hc;rw[hc];decide
       rw[hc]at hf;simp only[bne,hq,Bool.true_and,Bool.not_true,Bool.not_false,Bool.false_and,Bool.and_false,aI,if_false,if_true]at hf;simp only[↓zp,zw,↓reduceIte,aA,hc,hq,Bool.not_false,Bool.not_true,hrest,g0,g3];exact⟨by rw[hres];have:=Option.some.inj hf;rw[←this],hE08⟩
   ·rw[if_pos hz]at hf;have hf':=Option.some.inj hf;simp only[↓zp,zw,↓reduceIte,aA,hz,Bool.not_true,g0,g3,w1];refine bH (eV hp5 (n+1) (by omega)) ?_;rintro e k1 ⟨rfl,hG1⟩;simp only[↓zp,zw,↓reduceIte,aA,g0,g3];refine bH (fT _ _) ?_;rintro e k2 ⟨rfl,hG2⟩;simp only[↓zp,zw,↓reduceIte,aA,g0,g3];cases hy:(bU c.T s (n+1)).txt==([61,62]:List UInt8)
    ·simp only[↓zp,zw,↓reduceIte,aA,hy,g0,g3];exact⟨by rw[hres,←hf',hy];simp,(hE05.trans hG1).trans hG2⟩
    ·simp only[↓zp,zw,↓reduceIte,aA,hy,g0,g3];refine bH (eV ((hp5).ext0 (hG1.trans hG2)) (n+1) (by omega)) ?_;rintro e k3 ⟨rfl,hG3⟩;simp only[↓zp,zw,↓reduceIte,aA,Tk.cells,g0,g3];exact⟨by rw[hres,←hf',hy];simp,((hE05.trans hG1).trans hG2).trans hG3⟩
 ·simp only[↓zp,zw,↓reduceIte,aA,hk,Bool.not_true];simp only[beq_iff_eq]at hk;refine bH (kD hp1) ?_;rintro e k1 ⟨rfl,hG1⟩;simp only[↓zp,zw,↓reduceIte,aA];refine bH (fT _ _) ?_;rintro e k2 ⟨rfl,hG2⟩;simp only[↓zp,zw,↓reduceIte,aA];cases hy:(bU c.T s (1)).txt==([61,62]:List UInt8)
  ·simp only[↓zp,zw,↓reduceIte,aA,hy];exact⟨by unfold lV;rw[if_pos hk,hy];simp,(hE1.trans hG1).trans hG2⟩
  ·simp only[↓zp,zw,↓reduceIte,aA,hy];refine bH (kD ((hp1).ext0 (hG1.trans hG2))) ?_;rintro e k3 ⟨rfl,hG3⟩;simp only[↓zp,zw,↓reduceIte,aA,Tk.cells];exact⟨by unfold lV;rw[if_pos hk,hy];simp,((hE1.trans hG1).trans hG2).trans hG3⟩
end
section
section
variable{α β:Type}{c:PC}{h0 h:Heap}{L0 L:Nat}{U0 U:List Nat}{s:St}{fn:Nat}{args:Array Value}{k:Env→Heap→Prop}{ρ:Env}{dst:Option Nat}{val0:β→Value}{r:Res β}
theorem bZ {X:List Nat} {m:M α} {f:α→M β} {val:α→Value} (hq:Par c h0 L0 U0 h L U) (hX:∀x,x∈X→h0.size≤x) (hrun:(m>>=f) s=r) (hne:r≠ .out)
 (hc:∀r1,m s=r1→r1≠ .out→C aE fn args h (uC X c h L U r1 val))
 {E:List PanicEntry→Heap→Prop} (hE:E=fun ch h'=>POut c h0 L0 U0 r val0 (.panicked ch) h')
 {t:Tok (eH k E ρ dst)}
 (hok:∀a s1 h1 L1 U1,m s=.ok a s1→f a s1=r→PS h1 c L1 U1 s1→ParX X c h L U h1 L1 U1→Par c h0 L0 U0 h1 L1 U1→k (ρ.put dst (val a)) h1):
 CT aE fn args h (eH k E ρ dst) t:=by
 subst hE
 cases hm:m s with
 |ok a s1=>
  refine bH (hc _ hm (by simp)) ?_;rintro e h1 ⟨rfl,L1,U1,hp1,hq1⟩
  exact hok a s1 h1 L1 U1 hm (by rw[←hrun,eX hm]) hp1 hq1 (hq.transX hq1 hX)
 |err p=>
  refine bH (hc _ hm (by simp)) ?_;rintro e h1 ⟨rfl,hE⟩;show POut c h0 L0 U0 r val0 (.panicked (perr p)) h1;rw[←hrun,fQ hm]
  exact⟨rfl,iE hq hE⟩
 |out=>exact absurd (by rw[←hrun,eK hm]) hne
theorem bP {X:List Nat} {m:M α} {val:α→Value} (hq:Par c h0 L0 U0 h L U) (hX:∀x,x∈X→h0.size≤x) {r:Res α} (hrun:m s=r) (hne:r≠ .out)
 (hc:∀r1,m s=r1→r1≠ .out→C aE fn args h (uC X c h L U r1 val))
 {E:List PanicEntry→Heap→Prop} (hE:E=fun ch h'=>POut c h0 L0 U0 r val (.panicked ch) h')
 {t:Tok (eH k E ρ dst)}
 (hok:∀a s1 h1,r=.ok a s1→POut c h0 L0 U0 r val (.returned (val a)) h1→k (ρ.put dst (val a)) h1):
 CT aE fn args h (eH k E ρ dst) t:=by
 subst hE;refine bH (hc _ hrun hne) ?_;intro e h1 hR
 cases r with
 |ok a s1=>
  obtain⟨rfl,L1,U1,hp1,hq1⟩:=hR
  exact hok a s1 h1 rfl ⟨rfl,L1,U1,hp1,hq.transX hq1 hX⟩
 |err p=>
  obtain⟨rfl,hE⟩:=hR
  exact⟨rfl,iE hq hE⟩
 |out=>exact absurd rfl hne
theorem Par.own{X:List Nat}{h':Heap}(hq:Par c h0 L0 U0 h L U)(hE:Ext X h h')(hX:∀x,x∈X→h0.size≤x):Par c h0 L0 U0 h' L U:=
 ⟨hq.hL,hq.hU,hq.E.trans_new hE fun y hy=> .inl (hX y hy)⟩
theorem Par.ext0{h':Heap}(hq:Par c h0 L0 U0 h L U)(hE:Ext [] h h'):Par c h0 L0 U0 h' L U:=hq.own hE (by simp)
def KN(n:Nat)(h:Heap)(c:PC)(L:Nat)(U:List Nat)(v:Value)(ks:List Nat):Prop:=Kids h c L U v ks∧∀b,b∈blks v→n≤b
theorem KN.nil{n:Nat}:KN n h c L U (.slice none 0 0) []:=⟨Kids.nil,by simp[blks]⟩
theorem KN.par{n:Nat}{h':Heap}{L':Nat}{U':List Nat}{v:Value}{ks:List Nat}(hk:KN n h c L U v ks)(hp:Par c h L U h' L' U'):KN n h' c L' U' v ks:=⟨hk.1.par hp,hk.2⟩
theorem KN.parX{n:Nat}{X:List Nat}{h':Heap}{L':Nat}{U':List Nat}{v:Value}{ks:List Nat}(hk:KN n h c L U v ks)(hp:ParX X c h L U h' L' U')(hx:∀b,b∈blks v→b∉X):KN n h' c L' U' v ks:=⟨hk.1.parX hp hx,hk.2⟩
theorem KN.ext0{n:Nat}{h':Heap}{v:Value}{ks:List Nat}(hk:KN n h c L U v ks)(hE:Ext [] h h'):KN n h' c L U v ks:=hk.par (Par.of_ext hE)
theorem KN.head{n:Nat}{v:Value}{a:Nat}{ks:List Nat}(hk:KN n h c L U v (a::ks)):∃b cap,v=.slice (some ⟨b,0,none⟩) (ks.length+1) cap∧b<h.size∧bG h b 0=some (.int .i64 (a:Int)):=by
 obtain⟨b,m,cap,cs,rfl,hb,hm,ht,hl⟩:=hk.1.1.open (by simp[bL]);have hm':m=ks.length+1:=by simpa[bL]using hm
 subst hm';refine⟨b,cap,rfl,hb.lt,?_⟩;rw[Row.cell (n:=ks.length+1) (cap:=cap) hb ht (by simp[bL])]
 rfl
theorem bJ {vals:List Nat} {n:Nat} {ps:List (Nat×Operand)} {ty:TypeId} {E:List PanicEntry→Heap→Prop} {tk:Tok (dst,ρ,k,E)} (hp:PS h c L U s) (hq:Par c h0 L0 U0 h L U)
 (hps:ps=(bL vals).zipIdx.map fun p=>(p.2,Operand.const p.1)) (hn:vals.length=n) (hpos:0<n) (hsmall:n≤1000)
 (H:∀v' h',KN h0.size h' c L U v' vals→PS h' c L U s→Par c h L U h' L U→Par c h0 L0 U0 h' L U→blks v'=[h.size]→Ext [] h h'→k (ρ.put dst v') h'):
 eD aE (.buildSlice 33 n ps.toArray) ty dst ρ h k E tk:=by
 refine dQ (vals:=bL vals) (e:=3) Tryz.underlying33 (by kernel_rfl) hps (pG _) (by rw[cW];exact hn) hpos hsmall fun v' h' hr hb hE hs=> ?_;refine H v' h' ⟨⟨hr,fun b hb'=> ?_⟩,fun b hb'=> ?_⟩ (hp.ext0 hE) (Par.of_ext hE) (hq.ext0 hE) hb hE
 ·rw[hb]at hb';simp at hb';subst hb';exact Loc.new hp (bA _) (by omega)
 ·rw[hb]at hb';simp at hb';subst hb';exact hq.E.1
theorem cZ {v x:Value} {ks ks':List Nat} {ty:TypeId} {E:List PanicEntry→Heap→Prop} {tk:Tok (dst,ρ,k,E)} (hp:PS h c L U s) (hq:Par c h0 L0 U0 h L U) (hv:KN h0.size h c L U v ks) (hx:Row h x 3 1 (bL ks'))
 (hbig:ks.length+ks'.length≤1073741824)
 (H:∀v' h',KN h0.size h' c L U v' (ks++ks')→PS h' c L U s→Par c h0 L0 U0 h' L U→Ext (blks v) h h'→((blks v'=blks v)∨(blks v'=[h.size]))→k (ρ.put dst v') h'):
 eD aE (.call ⟨.builtin .append,#[.const v,.const x],#[33,33]⟩) ty dst ρ h k E tk:=by
 refine fX (n:=ks'.length) (tx:=33) (e:=3) (sz:=1) (news:=bL ks') hv.1.1 Tryz.underlying33 (by kernel_rfl) (fun w hw=>by
  obtain⟨n,hn,hs⟩:=hx.src (P:=aE) (tx:=33) (e':=3) Tryz.underlying33 (pG _) w hw;have:n=ks'.length:=by rw[cW]at hn;omega
  subst this;exact hs) (by rw[cW,cW];exact hbig) fun v' h' hr hc=> ?_
 rw[←yF]at hr;obtain⟨g1,g2,g3⟩:=hp.grow hv.1 hr hc;refine H v' h' ⟨g2,fun b hb=> ?_⟩ g1 (hq.own g3 hv.2) g3 (hc.elim (fun h=> .inl h.1) (fun h=> .inr h.1));rcases hc with⟨e,_⟩|⟨e,_⟩
 ·rw[e]at hb;exact hv.2 b hb
 ·rw[e]at hb;simp at hb;subst hb;exact hq.E.1
end
end
section
def fnOf:Fn1→Option (Nat×List Value)
 | .expression inn=>some (42,[.bool inn])
 | .assignment inn=>some (70,[.bool inn])
 | .conditional inn=>some (102,[.bool inn])
 | .binary least inn=>some (125,[vint least,.bool inn])
 | .power=>some (154,[])
 | .unary=>some (177,[])
 | .member=>some (199,[])
 | .maker=>some (213,[])
 | .tail e calls=>some (212,[vint e,.bool calls])
 | .primary=>some (214,[])
 | .template=>some (228,[])
 | .array=>some (229,[])
 | .object=>some (230,[])
 | .property=>some (250,[])
 | .key=>some (268,[])
 | .accessor=>some (267,[])
 | .argument=>some (249,[])
 | .parens=>some (156,[])
 | .statement=>some (74,[])
 | .block=>some (101,[])
 | .body=>some (105,[])
 | .declaration inn=>some (155,[.bool inn])
 | .function pos=>some (127,[vint pos])
 | .branch pos=>some (128,[vint pos])
 | .whil pos=>some (129,[vint pos])
 | .doo pos=>some (130,[vint pos])
 | .leave pos=>some (132,[vint pos])
 | .back pos=>some (133,[vint pos])
 | .throw pos=>some (134,[vint pos])
 | .tryy pos=>some (135,[vint pos])
 | .choice pos=>some (136,[vint pos])
 | .loop pos=>some (131,[vint pos])
 | .each pos declares=>some (158,[vint pos,.bool declares])
 | .parameters=>some (97,[])
 |_=>none
def pM(c:PC)(h:Heap)(L:Nat)(U:List Nat)(r:Res (List Nat))(e:Ending)(h':Heap):Prop:=match r with
 | .ok ks s'=> ∃v L' U',e=.returned v∧PS h' c L' U' s'∧Par c h L U h' L' U'∧KN h.size h' c L' U' v ks
 | .err p=>e=.panicked (perr p)∧Ext [c.p,L] h h'
 | .out=>False
section
variable{β:Type}{c:PC}{h0 h:Heap}{L0 L:Nat}{U0 U:List Nat}{s:St}{fn:Nat}{args:Array Value}{k:Env→Heap→Prop}{ρ:Env}{dst:Option Nat}{val0:β→Value}{r:Res β}
theorem CT_stepK {m:M (List Nat)} {f:List Nat→M β} (hq:Par c h0 L0 U0 h L U) (hrun:(m>>=f) s=r) (hne:r≠ .out)
 (hc:∀r1,m s=r1→r1≠ .out→C aE fn args h (pM c h L U r1))
 {E:List PanicEntry→Heap→Prop} (hE:E=fun ch h'=>POut c h0 L0 U0 r val0 (.panicked ch) h')
 {t:Tok (eH k E ρ dst)}
 (hok:∀v ks s1 h1 L1 U1,m s=.ok ks s1→f ks s1=r→PS h1 c L1 U1 s1→Par c h L U h1 L1 U1→Par c h0 L0 U0 h1 L1 U1→KN h0.size h1 c L1 U1 v ks→k (ρ.put dst v) h1):
 CT aE fn args h (eH k E ρ dst) t:=by
 subst hE
 cases hm:m s with
 |ok a s1=>
  refine bH (hc _ hm (by simp)) ?_;rintro e h1 ⟨v,L1,U1,rfl,hp1,hq1,hk1⟩
  exact hok v a s1 h1 L1 U1 hm (by rw[←hrun,eX hm]) hp1 hq1 (hq.trans hq1) ⟨hk1.1,fun b hb=>Nat.le_trans hq.E.1 (hk1.2 b hb)⟩
 |err p=>
  refine bH (hc _ hm (by simp)) ?_;rintro e h1 ⟨rfl,hE⟩;show POut c h0 L0 U0 r val0 (.panicked (perr p)) h1;rw[←hrun,fQ hm]
  exact⟨rfl,iE hq hE⟩
 |out=>exact absurd (by rw[←hrun,eK hm]) hne
theorem gF (hp:PS h c L U s) (hq:Par c h0 L0 U0 h L U) (hr:(Res.err (nowT c.T s).fr:Res β)=r)
 {E:List PanicEntry→Heap→Prop} (hE:E=fun ch h'=>POut c h0 L0 U0 r val0 (.panicked ch) h')
 {t:Tok (eH k E ρ dst)}:CT aE 47 #[.pointer (some ⟨c.p,0,none⟩)] h (eH k E ρ dst) t:=by
 subst hE;refine bH (oS hp) ?_;rintro e h1 ⟨rfl,hE1⟩;subst hr;exact⟨rfl,iE hq hE1.of_nil⟩
end
theorem tkc(t:Tk):t.cells[0]? =some (.int .i64 t.kind)∧t.cells[1]? =some (.string ⟨t.text.toArray⟩)∧t.cells[2]? =some (.string ⟨t.str.toArray⟩)∧t.cells[3]? =some (.float .f64 t.num)∧
 t.cells[4]? =some (.int .i64 t.fr)∧t.cells[5]? =some (.int .i64 t.til)∧t.cells[6]? =some (.bool t.line):=⟨rfl,rfl,rfl,rfl,rfl,rfl,rfl⟩
def zv:=aL zw (aL @vint.eq_1 (aL @vstr.eq_1 (aL @tkc (aL @zP @zO))))
def CE(T:List Tk)(n:Nat):Prop:=∀(c:PC) (h:Heap) (L:Nat) (U:List Nat) (s:St) (f:Fn1) (fn:Nat) (vs:List Value) (r:Res Nat),c.T=T→fnOf f=some (fn,vs)→PS h c L U s→(run T n).e f s=r→r≠ .out→
 C aE fn (.pointer (some ⟨c.p,0,none⟩)::vs).toArray h (POut c h L U r vint)
def CL(T:List Tk)(n:Nat):Prop:=∀(c:PC) (h:Heap) (L:Nat) (U:List Nat) (s:St) (r:Res (List Nat)),c.T=T→PS h c L U s→r≠ .out→
 ((run T n).l .list s=r→C aE 45 #[.pointer (some ⟨c.p,0,none⟩)] h (pM c h L U r))∧
 ((run T n).l .arguments s=r→C aE 227 #[.pointer (some ⟨c.p,0,none⟩)] h (pM c h L U r))
theorem dP{T:List Tk}{n:Nat}{f:Fn1}{s:St}{r:Res Nat}(hr:(run T (n+1)).e f s=r)(hne:r≠ .out):dJ T (run T n) f s=r∧f.kids.length<most:=by
 simp only[run]at hr;split at hr
 ·exact⟨hr,‹_›⟩
 ·exact absurd hr.symm hne
theorem xM{T:List Tk}{n:Nat}{f:FnL}{s:St}{r:Res (List Nat)}(hr:(run T (n+1)).l f s=r)(hne:r≠ .out):mX T (run T n) f s=r∧f.kids.length<most:=by
 simp only[run]at hr;split at hr
 ·exact⟨hr,‹_›⟩
 ·exact absurd hr.symm hne
def Below(T:List Tk)(n:Nat):Prop:=∀m,m<n→CE T m∧CL T m
section
variable{c:PC}{h:Heap}{L:Nat}{U:List Nat}{s:St}{n:Nat}{r:Res Nat}
theorem vZ(hB:Below c.T n)(hp:PS h c L U s)(inn:Bool)(hr:(run c.T n).e (.expression inn) s=r)(hne:r≠ .out):
 C aE 42 #[.pointer (some ⟨c.p,0,none⟩),.bool inn] h (POut c h L U r vint):=by
 cases n with
 |zero=>exact absurd hr.symm hne
 |succ n=>
 obtain⟨hr,_⟩:=dP hr hne;simp only[dJ,iR]at hr;have hq:Par c h L U h L U:=Par.refl _ _ _ _;refine C_in Tryz.func42 rfl rfl (by kernel_rfl) (aG rfl) ?_;simp only[↓zp,zw,↓reduceIte,aA];refine bF hq hr hne (fun r1 h1 h2=>(hB n (by omega)).1 c h L U s (.assignment inn) 70 _ r1 rfl rfl hp h1 h2) rfl fun a s1 h1 L1 U1 _ hr1 hp1 hd1 hq1=> ?_;simp only[↓zp,zw,↓reduceIte,aA,vint];refine bJ (vals:=[a]) hp1 hq1 rfl rfl (by omega) (by omega) fun v h2 hk2 hp2 hd2 hq2 hb2 hE2=> ?_;simp only[↓zp,zw,↓reduceIte,aA]
 refine⟨fun m ρ h'=> ∃L' U' s' v ks,ρ 0=.pointer (some ⟨c.p,0,none⟩)∧ρ 1=.bool inn∧ρ 5=v∧KN h.size h' c L' U' v ks∧PS h' c L' U' s'∧Par c h L U h' L' U'∧(run c.T m).e (.exprLoop inn ks) s'=r∧ks≠[]∧m≤n,n,
  ⟨L1,U1,s1,v,[a],by simp only[↓zp,zw,↓reduceIte,aA],by simp only[↓zp,zw,↓reduceIte,aA],by simp only[↓zp,zw,↓reduceIte,aA],hk2,hp2,hq2,hr1,by simp,bA _⟩,?_⟩
 rintro m ρ h3 ⟨L3,U3,s3,v3,ks,g0,g1,g5,hk3,hp3,hq3,hr3,hks,hm⟩
 cases m with
 |zero=>exact absurd hr3.symm hne
 |succ m=>
 obtain⟨hr4,hkl⟩:=dP hr3 hne;simp only[dJ,kJ]at hr4;simp only[Fn1.kids]at hkl;simp only[↓zp,zw,↓reduceIte,aA,g0,g1,g5];refine bF hq3 hr4 hne (fun r1 h1 h2=>eE hp3 [44] h1 h2) rfl fun b s4 h4 L4 U4 _ hr5 hp4 hd4 hq4=> ?_;have hk4:=hk3.par hd4
 cases b with
 |true=>
  simp only[if_true]at hr5;simp only[↓zp,zw,↓reduceIte,aA,g0,g1,g5];refine bF hq4 hr5 hne (fun r1 h1 h2=>(hB m (by omega)).1 c h4 L4 U4 s4 (.assignment inn) 70 _ r1 rfl rfl hp4 h1 h2) rfl fun a5 s5 h5 L5 U5 _ hr6 hp5 hd5 hq5=> ?_;have hk5:=hk4.par hd5;simp only[↓zp,zw,↓reduceIte,aA,vint,g0,g1,g5];refine bJ (vals:=[a5]) hp5 hq5 rfl rfl (by omega) (by omega) fun v6 h6 hk6 hp6 hd6 hq6 hb6 hE6=> ?_;have hk56:=hk5.par hd6;simp only[↓zp,zw,↓reduceIte,aA,g0,g1,g5];refine cZ hp6 hq6 hk56 hk6.1.1 (by unfold most at hkl;simp;omega) fun v7 h7 hk7 hp7 hq7 hE7 hc7=> ?_;simp only[↓zp,zw,↓reduceIte,aA,g0,g1,g5]
  exact⟨m,by omega,L5,U5,s5,v7,ks++[a5],by simp only[↓zp,zw,↓reduceIte,aA,g0],by simp only[↓zp,zw,↓reduceIte,aA,g1],by simp only[↓zp,zw,↓reduceIte,aA],hk7,hp7,hq7,hr6,by simp,by omega⟩
 |false=>
  simp only[aI,if_false]at hr5
  cases ks with
  |nil=>exact absurd rfl hks
  |cons k0 ks=>
  obtain⟨b8,cap8,rfl,hb8,hc8⟩:=hk4.head;have hn8:(0:Int)≤0∧(0:Int)<((ks.length+1:Nat):Int):=by omega
  cases ks with
  |nil=>
   have e1:(((([]:List Nat).length+1:Nat):Int)==1)=true:=by simp
   simp only[↓zp,zw,↓reduceIte,aA,g0,g1,g5,e1,hb8,hc8,hn8,aN,aQ];have hr6:(Res.ok k0 s4:Res Nat)=r:=hr5;subst hr6
   exact⟨rfl,L4,U4,hp4,hq4⟩
  |cons k1 ks=>
   have e1:((((k1::ks).length+1:Nat):Int)==1)=false:=by rw[beq_eq_false_iff_ne];simp;omega
   have hr6:(posM k0>>=fun pe=>cP 27 pe (k0::k1::ks)) s4=r:=hr5;simp only[↓zp,zw,↓reduceIte,aA,g0,g1,g5,e1,hb8,hc8,hn8,aN,aQ];refine bF hq4 hr6 hne (fun r1 h1 h2=>at_c hp4 k0 h1 h2) rfl fun pe s9 h9 L9 U9 _ hr7 hp9 hd9 hq9=> ?_;have hk9:=hk4.par hd9;simp only[↓zp,zw,↓reduceIte,aA,vint,g0,g1,g5];refine bP hq9 hk9.2 hr7 hne (fun r1 h1 h2=>bT hp9 27 pe _ _ hk9.1 h1 h2) rfl fun a10 s10 h10 _ hR=> ?_;simp only[↓zp,zw,↓reduceIte,aA,vint];exact hR
end
end
end Go.Proofs.YtfmbepijhnaklaaGreatDoor

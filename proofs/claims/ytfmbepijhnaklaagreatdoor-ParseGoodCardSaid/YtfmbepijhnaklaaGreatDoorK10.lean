/- Proved here: lex.Word and lex.Name | The scanner's tokens | The scanner's next token | The scanner's each, and what gathers its tokens | lex.Scan | The parser's functions that call each other, tenth part | The mirror of the parser ends, and what it ends with is right. Conditions: what each statement names. -/
import Derived.Test.YtfmbepijhnaklaaGreatDoorK06
import Derived.Test.YtfmbepijhnaklaaGreatDoorK09
import Derived.Test.YtfmbepijhnaklaaGreatDoorK03
set_option maxRecDepth 100000
set_option maxHeartbeats 4000000
set_option linter.unusedSimpArgs false
set_option linter.unusedVariables false
set_option linter.defProp false
open Nat renaming reduceEqDiff → aA, le_of_ble_eq_true → aG, mul_one → aP, zero_mul → aQ, zero_add → aR, reduceBEq → aY, reduceAdd → aZ, le_refl → bA
open List renaming length_cons → aB, length_append → aC, length_nil → aD, map_toArray → aH, map_cons → aJ, map_nil → aK, perm_iff_count → aM, count_append → aO, getElem?_eq_getElem → aS, count_cons → aT, count_nil → aV
open Go.Proofs.Tryz renaming prog → aE
open Int renaming toNat_natCast → aF, toNat_zero → aN, toNat_one → aX
open Bool renaming false_eq_true → aI, eq_iff_iff → aW
open And renaming intro → aL
open Go.IntWalk renaming i64_in → aU
namespace Go.Proofs.YtfmbepijhnaklaaGreatDoor
section
theorem hO{a b:List UInt8}(h:a.length+b.length≤9223372036854775807):binv .add (.string ⟨a.toArray⟩) (.string ⟨b.toArray⟩)=some (.string ⟨(a++b).toArray⟩):=by
 have e:(⟨a.toArray⟩:ByteArray)++⟨b.toArray⟩=⟨(a++b).toArray⟩:=by
  apply ByteArray.ext;rw[ByteArray.data_append];simp
 simp only[binv,eU,e];rw[if_neg (by show¬_>(9223372036854775807:Int);omega)]
section
variable{h:Heap}
theorem zK(hm:MaxLen h)(x:List UInt8)(hx:x.length≤1000000):C aE 50 #[.string ⟨x.toArray⟩] h (Ret (.bool (gN x)) h):=by
 refine C_in Tryz.func50 rfl rfl (by kernel_rfl) (aG rfl) ?_;simp only[↓zp,zw,aA]
 cases he:x==[]with
 |true=>
  have:x=[]:=by simpa using he
  subst this;simp only[↓zp,zw,aA]
  exact⟨rfl,rfl⟩
 |false=>
 simp only[↓zp,zw,aA];refine bK (sV x 32) ?_;by_cases hb:0≤Lib.indexByte x 32
 ·simp only[↓zp,zw,aA,he,bC hb];obtain⟨b,h1,h2⟩:=pE.1 hb;refine⟨?_,rfl⟩
  have:gN x=false:=by
   rw[Bool.eq_false_iff];intro hw;unfold gN at hw;exact oX x (by simpa using hw) b h1 h2
  rw[this]
 ·have hnb:∀b,b∈x→b≠32:=fun b h1 h2=>hb (pE.2 ⟨b,h1,h2⟩);simp only[↓zp,zw,aA,he,bD hb,hO (a:=[32]) (b:=x) (by simp;omega),hO (a:=32::x) (b:=[32]) (by simp;omega)];refine bK (yP hm (iF wordList) (32::(x++[32])) (by decide)) ?_;simp only[↓zp,zw,aA,he,bD hb];exact⟨by rw[word_law hnb],rfl⟩
theorem vL(hm:MaxLen h)(x:List UInt8)(hx:x.length≤1000000):C aE 49 #[.string ⟨x.toArray⟩] h (Ret (.bool (fL x)) h):=by
 refine C_in Tryz.func49 rfl rfl (by kernel_rfl) (aG rfl) ?_;simp only[↓zp,zw,aA]
 refine⟨fun m ρ h'=> ∃i:Nat,ρ 0=.string ⟨x.toArray⟩∧ρ 5=.int .i64 (x.length:Int)∧ρ 6=.int .i64 (i:Int)∧h'=h∧i≤x.length∧(∀j (hj:j<x.length),j<i→(cL x[j]||dU x[j])=true)∧(∀hp:0<x.length,0<i→cL x[0]=true)∧m=x.length-i,x.length,
  ⟨0,by simp only[↓zp,zw,aA],by simp only[↓zp,zw,aA],by simp only[↓zp,zw,aA];rfl,rfl,by omega,fun j hj h0=>by omega,fun hp h0=>by omega,rfl⟩,?_⟩
 rintro m ρ h1 ⟨i,g0,g5,g6,hh,hi,hall,hfst,hmm⟩;rw[hh]
 have bad:∀(j:Nat) (hj:j<x.length),(cL x[j]||dU x[j])=false→fL x=false:=by
  intro j hj hb;unfold fL
  have:x.all (fun c=>cL c||dU c)=false:=by
   rw[Bool.eq_false_iff];intro ha;have:=List.all_eq_true.1 ha x[j] (List.getElem_mem _);rw[this]at hb;cases hb
  rw[this];simp
 by_cases hlt:i<x.length
 ·have d1:decide ((i:Int)<(x.length:Int))=true:=bC (by omega);have b0:(0:Int)≤(i:Int):=by omega
  have w1:=bI (a:=i) (by omega);simp only[↓zp,zw,aA,g0,g5,g6,d1,b0,aF,hlt];refine bK (rN _) ?_
  cases hl:cL (x[i]'hlt)with
  |true=>
   simp only[↓zp,zw,aA,g0,g5,g6,d1,w1]
   exact⟨x.length-(i+1),by omega,i+1,trivial,trivial,rfl,trivial,by omega,fun j hj h2=>by
    rcases Nat.lt_or_ge j i with h3|h3
    ·exact hall j hj h3
    ·have:j=i:=by omega
     subst this;rw[hl];rfl,fun hp h2=>by
    rcases Nat.eq_zero_or_pos i with h3|h3
    ·subst h3;exact hl
    ·exact hfst hp h3,rfl⟩
  |false=>
   have e0:((i:Int)==0)=decide (i=0):=by rw[aW];simp
   simp only[↓zp,zw,aA,g0,g5,g6,d1,e0];by_cases hi0:i=0
   ·simp only[↓zp,zw,aA,g0,g5,g6,d1,bC hi0];refine⟨?_,rfl⟩;subst hi0
    have:fL x=false:=by
     cases x with
     |nil=>rfl
     |cons a r=>
      have hl':cL a=false:=hl;unfold fL;simp[hl']
    rw[this]
   ·simp only[↓zp,zw,aA,g0,g5,g6,d1,bD hi0,b0,aF,hlt];refine bK (mR _) ?_
    cases hd:dU (x[i]'hlt)with
    |true=>
     simp only[↓zp,zw,aA,g0,g5,g6,d1,bD hi0,w1]
     exact⟨x.length-(i+1),by omega,i+1,trivial,trivial,rfl,trivial,by omega,fun j hj h2=>by
      rcases Nat.lt_or_ge j i with h3|h3
      ·exact hall j hj h3
      ·have:j=i:=by omega
       subst this;rw[hd];simp,fun hp h2=>hfst hp (by omega),rfl⟩
    |false=>
     simp only[↓zp,zw,aA,g0,g5,g6,d1,bD hi0];exact⟨by rw[bad i hlt (by rw[hl,hd];rfl)],rfl⟩
 ·have d1:decide ((i:Int)<(x.length:Int))=false:=bD (by omega);simp only[↓zp,zw,aA,g0,g5,g6,d1]
  cases he:x==[]with
  |true=>
   have:x=[]:=by simpa using he
   subst this;simp only[↓zp,zw,aA,g0,g5,g6]
   exact⟨rfl,rfl⟩
  |false=>
   simp only[↓zp,zw,aA,g0,g5,g6,he];refine bK (zK hm x hx) ?_;simp only[↓zp,zw,aA,g0,g5,g6,he];refine⟨?_,rfl⟩;have hi2:i=x.length:=by omega
   subst hi2;have hne:x≠[]:=by simpa using he
   have hp:0<x.length:=List.length_pos_iff.2 hne;have h0:=hfst hp hp
   have ha:x.all (fun c=>cL c||dU c)=true:=by
    rw[List.all_eq_true];intro b hb;obtain⟨j,hj,rfl⟩:=List.mem_iff_getElem.1 hb;exact hall j hj hj
   have:fL x= !gN x:=by
    cases x with
    |nil=>exact absurd rfl hne
    |cons a r=>
     have h0':cL a=true:=h0;unfold fL;rw[ha];simp[h0']
   rw[this]
end
end
section
def iG(hI:Heap):Prop:=∀(h:Heap) (x:List UInt8),Ext [] hI h→0<x.length→x.length≤900000→
 C aE 118 #[.string ⟨x.toArray⟩] h fun e h'=>(∃(v n:Nat) (er:Int),e=.returned (.tuple #[.float .f64 v,.int .i64 (n:Int),.int .i64 er])∧(er=0→cC v∧1≤n∧n≤x.length))∧Ext [] h h'
theorem xL{p:UInt8→Bool}(hp:p 0=false):∀{l:List UInt8} {k:Nat},k≤(l.takeWhile p).length→(p (l.getD k 0)=true→k+1≤(l.takeWhile p).length)∧(p (l.getD k 0)=false→k=(l.takeWhile p).length)
 |[],k,hk=>by
  simp at hk;subst hk
  simp[hp]
 |a::l,k,hk=>by
  cases ha:p a with
  |false=>
   rw[List.takeWhile_cons,ha]at hk⊢;simp at hk;subst hk
   simp[ha]
  |true=>
   rw[List.takeWhile_cons,ha]at hk⊢;simp only[if_true,aB]at hk⊢
   cases k with
   |zero=>simp[ha]
   |succ k=>
    have:=xL hp (l:=l) (k:=k) (by omega);simp only[List.getD_cons_succ];exact⟨fun h=>by have:=this.1 h;omega,fun h=>by have:=this.2 h;omega⟩
theorem word_step{src:List UInt8}{i k:Nat}(hk:k≤(eB src i).length):
 ((cL (bY src (i+k))||dU (bY src (i+k)))=true→k+1≤(eB src i).length)∧((cL (bY src (i+k))||dU (bY src (i+k)))=false→k=(eB src i).length):=by
 have e:bY src (i+k)=(src.drop i).getD k 0:=by
  unfold bY;rw[List.getD_eq_getElem?_getD,List.getD_eq_getElem?_getD,List.getElem?_drop]
 rw[e];exact xL (p:=fun c=>cL c||dU c) (by decide) hk
def TokC(c:LC)(s:LSt)(v:Value)(s':LSt):Prop:=∃t:Tk,v=tkV t.kind t.text t.str t.num∧t.fr=s.at'∧t.til=s'.at'∧t.line=s.line∧TokR c.src s.at' s.line s.op t s'.at' s'.op∧s'.line=s.line
section
variable{h:Heap}{c:LC}{L:Nat}{s:LSt}
theorem token_c(hG:Gl c.hI)(hLit:iG c.hI)(H:LS h c L s):C aE 94 #[.pointer (some ⟨c.x,0,none⟩)] h (LOut c h L (TokC c s) (TokE c.src s.at' s.op)):=by
 have hs:=H.small;have ha:=H.le;have hxl:=H.lt;have hU:=H.list.lt;have hLl:=H.ltL;have hgl:=H.glob.1;have hE1:Ext [] h (h.push (.cells z73.toArray 73)):=Ext.push _ _ _;have hb2:Blk (h.push (.cells z73.toArray 73)) h.size z73 73:=Blk.new;have hz1:(h.push (.cells z73.toArray 73)).size=h.size+1:=by simp
 refine C_in Tryz.func94 rfl rfl (by kernel_rfl) (aG rfl) ?_;simp only[↓zp,zw,↓reduceIte,aA];rw[show h.push (.cells #[.int .i64 0,.string ⟨#[]⟩,.string ⟨#[]⟩,.float .f64 0,.int .i64 0,.int .i64 0,.bool false] 73)=h.push (.cells z73.toArray 73)from rfl];generalize h.push (.cells z73.toArray 73)=h1 at hE1 hb2 hz1⊢;have H1:=H.ext0 hE1;have p1:Par c.pc h L c.U h1 L c.U:=Par.of_ext hE1;obtain⟨vo,hb,hr,hvo⟩:=H1.body
 have fin:∀(h7 h8:Heap) (L7:Nat) (s7:LSt),LS h7 c L7 s7→Par c.pc h L c.U h7 L7 c.U→L7≠h.size→h.size<h7.size→Ext [h.size] h7 h8→LS h8 c L7 s7∧Par c.pc h L c.U h8 L7 c.U:=by
  intro h7 h8 L7 s7 k1 k2 k3 k5 k4;exact⟨k1.ext k4 (fun y hy=>by simp at hy;subst hy;exact⟨by omega,Ne.symm k3,fun hm=>by have:=hU _ hm;omega,by omega⟩),k2.hL,k2.hU,k2.E.trans_new k4 fun y hy=> .inl (by simp at hy;omega)⟩
 refine bK (hH H1 0 (by omega)) ?_;simp only[↓zp,zw,↓reduceIte,aA,Nat.add_zero];refine bR 10 (by kernel_rfl) (by kernel_rfl) (by kernel_rfl) ?_;by_cases hge:c.src.length≤s.at'
 ·have d1:decide ((c.src.length:Int)≤(s.at':Int))=true:=bC (by omega);simp only[↓zp,zw,↓reduceIte,aA,bE hb,d1];refine cM hb2 (by kernel_rfl) rfl (by simp[z73]) rfl fun h8 hb8 hE8 hs8=> ?_;simp only[↓zp,zw,↓reduceIte,aA,bQ hb8 (n:=7) rfl];obtain⟨k1,k2⟩:=fin h1 h8 L s H1 p1 (by omega) (by omega) hE8;exact .inl ⟨_,s,L,rfl,k1,k2,⟨0,[],[],0,s.at',s.at',s.line⟩,rfl,rfl,rfl,rfl,.eof hge,rfl⟩
 have hlt:s.at'<c.src.length:=by omega
 have d1:decide ((c.src.length:Int)≤(s.at':Int))=false:=bD (by omega);simp only[↓zp,zw,↓reduceIte,aA,bE hb,d1];refine bK (rN _) ?_
 cases hlet:cL (bY c.src s.at')with
 |true=>
  simp only[↓zp,zw,↓reduceIte,aA,bE hb];have hW:=wY (src:=c.src) (Nat.le_of_lt hlt);generalize hWl:(eB c.src s.at').length=W at hW
  refine⟨fun m ρ h'=> ∃(s':LSt) (k:Nat),ρ 0=.pointer (some ⟨c.x,0,none⟩)∧ρ 2=.pointer (some ⟨h.size,0,none⟩)∧ρ 4=.int .i64 (s.at':Int)∧LS h' c L s'∧Ext [c.x] h1 h'∧Blk h' h.size z73 73∧s'.at'=s.at'+k∧k≤W∧s'.line=s.line∧s'.op=s.op∧m=W-k,W,
   ⟨s,0,by simp only[↓zp,zw,↓reduceIte,aA],by simp only[↓zp,zw,↓reduceIte,aA],by simp only[↓zp,zw,↓reduceIte,aA],H1,Ext.refl _ _,hb2,rfl,by omega,rfl,rfl,by omega⟩,?_⟩
  rintro m ρ h3 ⟨s3,k,g0,g2,g4,H3,hx3,hb23,hat3,hk,hl3,ho3,hm⟩;have hw:=word_step (src:=c.src) (i:=s.at') (k:=k) (by omega);rw[hWl,←hat3]at hw;simp only[↓zp,zw,↓reduceIte,aA,g0,g2,g4];refine bK (hH H3 0 (by omega)) ?_;simp only[↓zp,zw,↓reduceIte,aA,Nat.add_zero];refine bK (rN _) ?_
  cases hc1:cL (bY c.src s3.at')with
  |true=>
   rw[hc1]at hw;have hk1:=hw.1 rfl;simp only[↓zp,zw,↓reduceIte,aA,g0,g2,g4];have wA:=bI (a:=s3.at') (by omega);obtain⟨voA,hbA,hrA,hvA⟩:=H3.body;simp only[↓zp,zw,↓reduceIte,aA,g0,g2,g4,bE hbA,wA];refine bS hbA (by kernel_rfl) (by simp) rfl fun h4 hb4 hE4 hs4=> ?_;obtain⟨s4,e1,e2,e3,H4⟩:=H3.st2 (i:=s3.at'+1) (l:=s3.line) hrA hvA hb4 hE4 ⟨by omega,by omega⟩;simp only[↓zp,zw,↓reduceIte,aA,g0,g2,g4]
   exact⟨W-(k+1),by omega,s4,k+1,trivial,trivial,trivial,H4,hx3.trans hE4,hb23.ext hE4 (by simp;omega),by omega,by omega,e2.trans hl3,e3.trans ho3,rfl⟩
  |false=>
   simp only[↓zp,zw,↓reduceIte,aA,g0,g2,g4];refine bK (hH H3 0 (by omega)) ?_;simp only[↓zp,zw,↓reduceIte,aA,g0,g2,g4,Nat.add_zero];refine bK (mR _) ?_
   cases hc2:dU (bY c.src s3.at')with
   |true=>
    rw[hc1,hc2]at hw;have hk1:=hw.1 rfl;simp only[↓zp,zw,↓reduceIte,aA,g0,g2,g4];have wA:=bI (a:=s3.at') (by omega);obtain⟨voA,hbA,hrA,hvA⟩:=H3.body;simp only[↓zp,zw,↓reduceIte,aA,g0,g2,g4,bE hbA,wA];refine bS hbA (by kernel_rfl) (by simp) rfl fun h4 hb4 hE4 hs4=> ?_;obtain⟨s4,e1,e2,e3,H4⟩:=H3.st2 (i:=s3.at'+1) (l:=s3.line) hrA hvA hb4 hE4 ⟨by omega,by omega⟩;simp only[↓zp,zw,↓reduceIte,aA,g0,g2,g4]
    exact⟨W-(k+1),by omega,s4,k+1,trivial,trivial,trivial,H4,hx3.trans hE4,hb23.ext hE4 (by simp;omega),by omega,by omega,e2.trans hl3,e3.trans ho3,rfl⟩
   |false=>
    rw[hc1,hc2]at hw;have hk1:=hw.2 rfl;subst hk1;simp only[↓zp,zw,↓reduceIte,aA,g0,g2,g4];obtain⟨voA,hbA,hrA,hvA⟩:=H3.body;have b1:(0:Int)≤(s3.at':Int)∧(s3.at':Int)≤((c.src.length:Nat):Int):=by omega
    have b2:(0:Int)≤(s.at':Int)∧(s.at':Int)≤((s3.at':Nat):Int):=by omega
    have hword:(c.src.take s3.at').drop s.at'=eB c.src s.at':=by
     rw[List.drop_take,hat3,show s.at'+k-s.at'=k by omega,←hWl];exact tB
    refine fW 12 [(0,true),(1,true),(2,true),(3,true),(4,true),(5,true),(6,true),(7,true),(8,true),(9,true),(10,true),(11,false)] (fun h'=>Blk h' c.x [.string ⟨c.src.toArray⟩,.int .i64 (s3.at':Int),.bool s3.line,voA,c.vl] 99) (by kernel_rfl) (by kernel_rfl) hbA ?_
    iterate 11 refine Wo_t rfl rfl _ (.inl fun h' hS'=>by simp only[rdOp,↓zp,zw,↓reduceIte,aA,aH,aJ,aK,bE hS',b1,b2,aF,g0,g4,hword];rfl) ?_
    refine Wo_f rfl rfl ?_;simp only[↓zp,zw,↓reduceIte,aA];have hE5:Ext [] h3 (h3.push (.cells z73.toArray 73)):=Ext.push _ _ _;have hb5:Blk (h3.push (.cells z73.toArray 73)) h3.size z73 73:=Blk.new;have hz5:(h3.push (.cells z73.toArray 73)).size=h3.size+1:=by simp
    rw[show h3.push (.cells #[.int .i64 0,.string ⟨#[]⟩,.string ⟨#[]⟩,.float .f64 0,.int .i64 0,.int .i64 0,.bool false] 73)=h3.push (.cells z73.toArray 73)from rfl];generalize h3.push (.cells z73.toArray 73)=h5 at hE5 hb5 hz5⊢;refine⟨hbA.ext hE5 (by simp),?_⟩;refine kU ?_;simp only[List.drop_succ_cons,List.drop_zero];simp only[↓zp,zw,↓reduceIte,aA];have hlt3:=hb23.lt;have hz31:=hx3.1;have hxl3:=H3.lt;have hUl3:=H3.list.lt;have H5:=H3.ext0 hE5;refine cM hb5 (by kernel_rfl) rfl (by simp[z73]) rfl fun h6 hb6 hE6 hs6=> ?_;have H6:=H5.ext hE6 (fun y hy=>by simp at hy;subst hy;exact⟨by omega,by omega,fun hm=>by have:=hUl3 _ hm;omega,by omega⟩);replace hb6:Blk h6 h3.size [.int .i64 1,.string ⟨(eB c.src s.at').toArray⟩,.string ⟨[].toArray⟩,.float .f64 0,.int .i64 0,.int .i64 0,.bool false] 73:=hb6;simp only[↓zp,zw,↓reduceIte,aA,g0,g2,g4,bE hb6];refine bK (zK (hG.max H6.glob) (eB c.src s.at') (by rw[hWl];omega)) ?_;have E6:Ext [] h3 h6:=hE5.trans_new hE6 fun y hy=> .inl (by simp at hy;omega)
    cases hwb:gN (eB c.src s.at')with
    |true=>
     simp only[↓zp,zw,↓reduceIte,aA,g0,g2,g4,bE hb6];refine bS hb6 (by kernel_rfl) (by simp) rfl fun h7 hb7 hE7 hs7=> ?_;replace hb7:Blk h7 h3.size [.int .i64 2,.string ⟨(eB c.src s.at').toArray⟩,.string ⟨[].toArray⟩,.float .f64 0,.int .i64 0,.int .i64 0,.bool false] 73:=hb7;simp only[↓zp,zw,↓reduceIte,aA,g0,g2,g4,bQ hb7 (n:=7) rfl];have hE60:Ext [] h3 h7:=E6.trans_new hE7 fun y hy=> .inl (by simp at hy;omega);have H7:=H3.ext0 hE60;have hz7:=hE60.1;have hb27:=hb23.ext hE60 (by simp);refine cM hb27 (by kernel_rfl) rfl (by simp[z73]) rfl fun h8 hb8 hE8 hs8=> ?_;simp only[↓zp,zw,↓reduceIte,aA,g0,g2,g4,bQ hb8 (n:=7) rfl];have p7:Par c.pc h L c.U h7 L c.U:=⟨.inl rfl,fun _ h=> .inl h,((hE1.of_nil.trans (hx3.mono fun y hy=>by simp at hy;simp[hy,LC.pc])).trans hE60.of_nil)⟩;obtain⟨k1,k2⟩:=fin h7 h8 L s3 H7 p7 (by omega) (by omega) hE8;refine .inl ⟨_,s3,L,rfl,k1,k2,⟨2,eB c.src s.at',[],0,s.at',s3.at',s.line⟩,rfl,rfl,rfl,rfl,?_,hl3⟩;have:=TokR.name (op:=s.op) (l:=s.line) (j:=s3.at') hlt hlet (by omega);rw[hwb]at this;rw[ho3]
     exact this
    |false=>
     simp only[↓zp,zw,↓reduceIte,aA,g0,g2,g4,bQ hb6 (n:=7) rfl];have hE60:Ext [] h3 h6:=E6;have H7:=H3.ext0 hE60;have hz7:=hE60.1;have hb27:=hb23.ext hE60 (by simp);refine cM hb27 (by kernel_rfl) rfl (by simp[z73]) rfl fun h8 hb8 hE8 hs8=> ?_;simp only[↓zp,zw,↓reduceIte,aA,g0,g2,g4,bQ hb8 (n:=7) rfl];have p7:Par c.pc h L c.U h6 L c.U:=⟨.inl rfl,fun _ h=> .inl h,((hE1.of_nil.trans (hx3.mono fun y hy=>by simp at hy;simp[hy,LC.pc])).trans hE60.of_nil)⟩;obtain⟨k1,k2⟩:=fin h6 h8 L s3 H7 p7 (by omega) (by omega) hE8;refine .inl ⟨_,s3,L,rfl,k1,k2,⟨1,eB c.src s.at',[],0,s.at',s3.at',s.line⟩,rfl,rfl,rfl,rfl,?_,hl3⟩;have:=TokR.name (op:=s.op) (l:=s.line) (j:=s3.at') hlt hlet (by omega);rw[hwb]at this;rw[ho3]
     exact this
 |false=>
 have e34:(((bY c.src s.at').toNat:Int)==34)=(bY c.src s.at'==34):=eA (n:=34) (by decide);have e39:(((bY c.src s.at').toNat:Int)==39)=(bY c.src s.at'==39):=eA (n:=39) (by decide);have e96:(((bY c.src s.at').toNat:Int)==96)=(bY c.src s.at'==96):=eA (n:=96) (by decide);have e46:(((bY c.src s.at').toNat:Int)==46)=(bY c.src s.at'==46):=eA (n:=46) (by decide);simp only[↓zp,zw,↓reduceIte,aA];refine bK (mR _) ?_
 cases hd:dU (bY c.src s.at')with
 |true=>
  have hnum:numB c.src s.at'=true:=by unfold numB;rw[hd];rfl
  simp only[↓zp,zw,↓reduceIte,aA];have b1:(0:Int)≤(s.at':Int)∧(s.at':Int)≤((c.src.length:Nat):Int):=by omega
  refine dL [(0,true),(1,true),(2,true),(3,true),(4,true),(5,true),(6,true),(7,true),(8,true),(9,false),(10,true),(11,true),(12,true),(13,true),(14,true),(15,true),(16,true)] (fun h'=>Blk h' c.x [.string ⟨c.src.toArray⟩,.int .i64 (s.at':Int),.bool s.line,vo,c.vl] 99) (by kernel_rfl) (by kernel_rfl) (by kernel_rfl) rfl hb ?_
  iterate 9 refine Wo_t rfl rfl _ (.inl fun h' hS'=>by simp only[rdOp,↓zp,zw,↓reduceIte,aA,aH,aJ,aK,bE hS',b1,aF,List.take_length];rfl) ?_
  refine Wo_f rfl rfl ?_;simp only[↓zp,zw,↓reduceIte,aA];refine bH (hLit h1 (c.src.drop s.at') H1.glob (by simp;omega) (by simp;omega)) ?_;rintro _ h4 ⟨⟨v,n,er,rfl,hgood⟩,hE4⟩;have H4:=H1.ext0 hE4;have hz4:=hE4.1;have hb4:=hb.ext hE4 (by simp);simp only[↓zp,zw,↓reduceIte,aA];refine⟨hb4,?_⟩
  iterate 7 refine Wo_t rfl rfl _ (.inl fun h' hS'=>by simp only[rdOp,↓zp,zw,↓reduceIte,aA,aH,aJ,aK];rfl) ?_
  refine kU ?_;simp only[↓zp,zw,↓reduceIte,aA]
  cases her:er !=0 with
  |true=>
   simp only[↓zp,zw,↓reduceIte,aA,her,bE hb4];refine eF ?_
   exact .inr ⟨⟨hlt,hlet,.inl hnum⟩,⟨s.at',rfl⟩,(hE1.trans hE4).of_nil⟩
  |false=>
   have her0:er=0:=by simpa using her
   obtain⟨g1,g2,g3⟩:=hgood her0;simp only[List.length_drop]at g3;have wA:=cQ (a:=s.at') (b:=n) (by omega);obtain⟨voA,hbA,hrA,hvA⟩:=H4.body;simp only[↓zp,zw,↓reduceIte,aA,her,bE hbA,wA];refine bS hbA (by kernel_rfl) (by simp) rfl fun h5 hb5 hE5 hs5=> ?_;obtain⟨s5,e1,e2,e3,H5⟩:=H4.st2 (i:=s.at'+n) (l:=s.line) hrA hvA hb5 hE5 ⟨by omega,by omega⟩;have hb25:=(hb2.ext hE4 (by simp)).ext hE5 (by simp;omega);simp only[↓zp,zw,↓reduceIte,aA,her];refine cM hb25 (by kernel_rfl) rfl (by simp[z73]) rfl fun h8 hb8 hE8 hs8=> ?_;simp only[↓zp,zw,↓reduceIte,aA,her,bQ hb8 (n:=7) rfl];have p7:Par c.pc h L c.U h5 L c.U:=⟨.inl rfl,fun _ h=> .inl h,((hE1.trans hE4).of_nil.trans (hE5.mono fun y hy=>by simp at hy;simp[hy,LC.pc]))⟩;obtain⟨k1,k2⟩:=fin h5 h8 L s5 H5 p7 (by omega) (by have:=hE5.1;omega) hE8;refine .inl ⟨_,s5,L,rfl,k1,k2,⟨4,[],[],v,s.at',s5.at',s.line⟩,rfl,rfl,rfl,rfl,?_,e2⟩;rw[e3]
   exact .num hlt hlet hnum g1 (by omega) (by omega)
 |false=>
 simp only[↓zp,zw,↓reduceIte,aA,e46]
 cases h46:bY c.src s.at'==46 with
 |false=>
  have hnum:numB c.src s.at'=false:=by unfold numB;rw[hd,h46];rfl
  simp only[↓zp,zw,↓reduceIte,aA];simp only[↓zp,zw,↓reduceIte,aA,e34]
  cases h34:bY c.src s.at'==34 with
  |true=>
   have hquo:quoB c.src s.at'=true:=by unfold quoB;rw[h34];simp
   simp only[↓zp,zw,↓reduceIte,aA,e34,h34];refine CT_L p1 (pR H1 hlt) (fun _=>⟨hlt,hlet,.inr (.inl hquo)⟩) rfl fun v s4 h4 L4 hR H4 d4 q4=> ?_;obtain⟨l,rfl,hev,hat,hky⟩:=hR
   have hL4:L4≠h.size:=by
    have:=d4.hL;rcases this with e|e
    ·omega
    ·omega
   have hb24:=hb2.ext d4.E (by simp[LC.pc];omega);have hz4:=d4.E.1;simp only[↓zp,zw,↓reduceIte,aA,e34,h34];refine cM hb24 (by kernel_rfl) rfl (by simp[z73,Tk.cells]) rfl fun h8 hb8 hE8 hs8=> ?_;simp only[↓zp,zw,↓reduceIte,aA,e34,h34,bQ hb8 (n:=7) rfl];obtain⟨k1,k2⟩:=fin h4 h8 L4 s4 H4 q4 hL4 (by omega) hE8
   exact .inl ⟨_,s4,L4,rfl,k1,k2,⟨5,[],l,0,s.at',s4.at',s.line⟩,rfl,rfl,rfl,rfl,.txt hlt hlet hnum hquo (by omega) hev (by omega) H4.le,congrArg Prod.snd hky⟩
  |false=>
  cases h39:bY c.src s.at'==39 with
  |true=>
   have hquo:quoB c.src s.at'=true:=by unfold quoB;rw[h39];simp
   simp only[↓zp,zw,↓reduceIte,aA,e34,h34,e39,h39];refine CT_L p1 (pR H1 hlt) (fun _=>⟨hlt,hlet,.inr (.inl hquo)⟩) rfl fun v s4 h4 L4 hR H4 d4 q4=> ?_;obtain⟨l,rfl,hev,hat,hky⟩:=hR
   have hL4:L4≠h.size:=by
    have:=d4.hL;rcases this with e|e
    ·omega
    ·omega
   have hb24:=hb2.ext d4.E (by simp[LC.pc];omega);have hz4:=d4.E.1;simp only[↓zp,zw,↓reduceIte,aA,e34,h34,e39,h39];refine cM hb24 (by kernel_rfl) rfl (by simp[z73,Tk.cells]) rfl fun h8 hb8 hE8 hs8=> ?_;simp only[↓zp,zw,↓reduceIte,aA,e34,h34,e39,h39,bQ hb8 (n:=7) rfl];obtain⟨k1,k2⟩:=fin h4 h8 L4 s4 H4 q4 hL4 (by omega) hE8
   exact .inl ⟨_,s4,L4,rfl,k1,k2,⟨5,[],l,0,s.at',s4.at',s.line⟩,rfl,rfl,rfl,rfl,.txt hlt hlet hnum hquo (by omega) hev (by omega) H4.le,congrArg Prod.snd hky⟩
  |false=>
  simp only[↓zp,zw,↓reduceIte,aA,e34,h34,e39,h39,e96]
  cases h96:bY c.src s.at'==96 with
  |true=>
   have hquo:quoB c.src s.at'=true:=by unfold quoB;rw[h96];simp
   simp only[↓zp,zw,↓reduceIte,aA,e34,h34,e39,h39,e96,h96];refine CT_L p1 (vF H1 hlt 6 7) (fun _=>⟨hlt,hlet,.inr (.inl hquo)⟩) rfl fun v s4 h4 L4 hR H4 d4 q4=> ?_;obtain⟨k,l,hk,rfl,hev,hat,hln⟩:=hR
   have hL4:L4≠h.size:=by
    have:=d4.hL;rcases this with e|e
    ·omega
    ·omega
   have hb24:=hb2.ext d4.E (by simp[LC.pc];omega);have hz4:=d4.E.1;simp only[↓zp,zw,↓reduceIte,aA,e34,h34,e39,h39,e96,h96];refine cM hb24 (by kernel_rfl) rfl (by simp[z73,Tk.cells]) rfl fun h8 hb8 hE8 hs8=> ?_;simp only[↓zp,zw,↓reduceIte,aA,e34,h34,e39,h39,e96,h96,bQ hb8 (n:=7) rfl];obtain⟨k1,k2⟩:=fin h4 h8 L4 s4 H4 q4 hL4 (by omega) hE8;have hk2:5≤k∧k≤9:=by omega
   exact .inl ⟨_,s4,L4,rfl,k1,k2,⟨k,[],l,0,s.at',s4.at',s.line⟩,rfl,rfl,rfl,rfl,.txt hlt hlet hnum hquo hk2 hev (by omega) H4.le,hln⟩
  |false=>
  have hquo:quoB c.src s.at'=false:=by unfold quoB;rw[h34,h39,h96];rfl
  simp only[↓zp,zw,↓reduceIte,aA,e34,h34,e39,h39,e96,h96];refine CT_L p1 (sign_c H1) (fun hB=>⟨hlt,hlet,by rcases hB with h|h;exact .inr (.inr (.inl h));exact .inr (.inr (.inr h))⟩) rfl fun v s4 h4 L4 hR H4 d4 q4=> ?_
  have hL4:L4≠h.size:=by
   have:=d4.hL;rcases this with e|e
   ·omega
   ·omega
  have hb24:=hb2.ext d4.E (by simp[LC.pc];omega);have hz4:=d4.E.1;rcases hR with⟨tx,ht,rfl,hat,hop,hln⟩|⟨hne,k,l,hk,rfl,hev,hat,hln⟩
  ·simp only[↓zp,zw,↓reduceIte,aA,e34,h34,e39,h39,e96,h96];refine cM hb24 (by kernel_rfl) rfl (by simp[z73,Tk.cells]) rfl fun h8 hb8 hE8 hs8=> ?_;simp only[↓zp,zw,↓reduceIte,aA,e34,h34,e39,h39,e96,h96,bQ hb8 (n:=7) rfl];obtain⟨k1,k2⟩:=fin h4 h8 L4 s4 H4 q4 hL4 (by omega) hE8;exact .inl ⟨_,s4,L4,rfl,k1,k2,⟨3,tx,[],0,s.at',s4.at',s.line⟩,rfl,rfl,rfl,rfl,.sign hlt hlet hnum hquo ht hop hat,hln⟩
  ·simp only[↓zp,zw,↓reduceIte,aA,e34,h34,e39,h39,e96,h96];refine cM hb24 (by kernel_rfl) rfl (by simp[z73,Tk.cells]) rfl fun h8 hb8 hE8 hs8=> ?_;simp only[↓zp,zw,↓reduceIte,aA,e34,h34,e39,h39,e96,h96,bQ hb8 (n:=7) rfl];obtain⟨k1,k2⟩:=fin h4 h8 L4 s4 H4 q4 hL4 (by omega) hE8;have hk2:5≤k∧k≤9:=by omega
   exact .inl ⟨_,s4,L4,rfl,k1,k2,⟨k,[],l,0,s.at',s4.at',s.line⟩,rfl,rfl,rfl,rfl,.piece hlt hne hk2 hev hat H4.le,hln⟩
 |true=>
  simp only[↓zp,zw,↓reduceIte,aA];refine bK (hH H1 1 (by omega)) ?_;simp only[↓zp,zw,↓reduceIte,aA];refine bK (mR _) ?_
  cases hd1:dU (bY c.src (s.at'+1))with
  |true=>
   have hnum:numB c.src s.at'=true:=by unfold numB;rw[hd,h46,hd1];rfl
   simp only[↓zp,zw,↓reduceIte,aA];have b1:(0:Int)≤(s.at':Int)∧(s.at':Int)≤((c.src.length:Nat):Int):=by omega
   refine dL [(0,true),(1,true),(2,true),(3,true),(4,true),(5,true),(6,true),(7,true),(8,true),(9,false),(10,true),(11,true),(12,true),(13,true),(14,true),(15,true),(16,true)] (fun h'=>Blk h' c.x [.string ⟨c.src.toArray⟩,.int .i64 (s.at':Int),.bool s.line,vo,c.vl] 99) (by kernel_rfl) (by kernel_rfl) (by kernel_rfl) rfl hb ?_
   iterate 9 refine Wo_t rfl rfl _ (.inl fun h' hS'=>by simp only[rdOp,↓zp,zw,↓reduceIte,aA,aH,aJ,aK,bE hS',b1,aF,List.take_length];rfl) ?_
   refine Wo_f rfl rfl ?_;simp only[↓zp,zw,↓reduceIte,aA];refine bH (hLit h1 (c.src.drop s.at') H1.glob (by simp;omega) (by simp;omega)) ?_;rintro _ h4 ⟨⟨v,n,er,rfl,hgood⟩,hE4⟩;have H4:=H1.ext0 hE4;have hz4:=hE4.1;have hb4:=hb.ext hE4 (by simp);simp only[↓zp,zw,↓reduceIte,aA];refine⟨hb4,?_⟩
   iterate 7 refine Wo_t rfl rfl _ (.inl fun h' hS'=>by simp only[rdOp,↓zp,zw,↓reduceIte,aA,aH,aJ,aK];rfl) ?_
   refine kU ?_;simp only[↓zp,zw,↓reduceIte,aA]
   cases her:er !=0 with
   |true=>
    simp only[↓zp,zw,↓reduceIte,aA,her,bE hb4];refine eF ?_
    exact .inr ⟨⟨hlt,hlet,.inl hnum⟩,⟨s.at',rfl⟩,(hE1.trans hE4).of_nil⟩
   |false=>
    have her0:er=0:=by simpa using her
    obtain⟨g1,g2,g3⟩:=hgood her0;simp only[List.length_drop]at g3;have wA:=cQ (a:=s.at') (b:=n) (by omega);obtain⟨voA,hbA,hrA,hvA⟩:=H4.body;simp only[↓zp,zw,↓reduceIte,aA,her,bE hbA,wA];refine bS hbA (by kernel_rfl) (by simp) rfl fun h5 hb5 hE5 hs5=> ?_;obtain⟨s5,e1,e2,e3,H5⟩:=H4.st2 (i:=s.at'+n) (l:=s.line) hrA hvA hb5 hE5 ⟨by omega,by omega⟩;have hb25:=(hb2.ext hE4 (by simp)).ext hE5 (by simp;omega);simp only[↓zp,zw,↓reduceIte,aA,her];refine cM hb25 (by kernel_rfl) rfl (by simp[z73]) rfl fun h8 hb8 hE8 hs8=> ?_;simp only[↓zp,zw,↓reduceIte,aA,her,bQ hb8 (n:=7) rfl];have p7:Par c.pc h L c.U h5 L c.U:=⟨.inl rfl,fun _ h=> .inl h,((hE1.trans hE4).of_nil.trans (hE5.mono fun y hy=>by simp at hy;simp[hy,LC.pc]))⟩;obtain⟨k1,k2⟩:=fin h5 h8 L s5 H5 p7 (by omega) (by have:=hE5.1;omega) hE8;refine .inl ⟨_,s5,L,rfl,k1,k2,⟨4,[],[],v,s.at',s5.at',s.line⟩,rfl,rfl,rfl,rfl,?_,e2⟩;rw[e3]
    exact .num hlt hlet hnum g1 (by omega) (by omega)
  |false=>
  have hnum:numB c.src s.at'=false:=by unfold numB;rw[hd,h46,hd1];rfl
  simp only[↓zp,zw,↓reduceIte,aA];simp only[↓zp,zw,↓reduceIte,aA,e34]
  cases h34:bY c.src s.at'==34 with
  |true=>
   have hquo:quoB c.src s.at'=true:=by unfold quoB;rw[h34];simp
   simp only[↓zp,zw,↓reduceIte,aA,e34,h34];refine CT_L p1 (pR H1 hlt) (fun _=>⟨hlt,hlet,.inr (.inl hquo)⟩) rfl fun v s4 h4 L4 hR H4 d4 q4=> ?_;obtain⟨l,rfl,hev,hat,hky⟩:=hR
   have hL4:L4≠h.size:=by
    have:=d4.hL;rcases this with e|e
    ·omega
    ·omega
   have hb24:=hb2.ext d4.E (by simp[LC.pc];omega);have hz4:=d4.E.1;simp only[↓zp,zw,↓reduceIte,aA,e34,h34];refine cM hb24 (by kernel_rfl) rfl (by simp[z73,Tk.cells]) rfl fun h8 hb8 hE8 hs8=> ?_;simp only[↓zp,zw,↓reduceIte,aA,e34,h34,bQ hb8 (n:=7) rfl];obtain⟨k1,k2⟩:=fin h4 h8 L4 s4 H4 q4 hL4 (by omega) hE8
   exact .inl ⟨_,s4,L4,rfl,k1,k2,⟨5,[],l,0,s.at',s4.at',s.line⟩,rfl,rfl,rfl,rfl,.txt hlt hlet hnum hquo (by omega) hev (by omega) H4.le,congrArg Prod.snd hky⟩
  |false=>
  cases h39:bY c.src s.at'==39 with
  |true=>
   have hquo:quoB c.src s.at'=true:=by unfold quoB;rw[h39];simp
   simp only[↓zp,zw,↓reduceIte,aA,e34,h34,e39,h39];refine CT_L p1 (pR H1 hlt) (fun _=>⟨hlt,hlet,.inr (.inl hquo)⟩) rfl fun v s4 h4 L4 hR H4 d4 q4=> ?_;obtain⟨l,rfl,hev,hat,hky⟩:=hR
   have hL4:L4≠h.size:=by
    have:=d4.hL;rcases this with e|e
    ·omega
    ·omega
   have hb24:=hb2.ext d4.E (by simp[LC.pc];omega);have hz4:=d4.E.1;simp only[↓zp,zw,↓reduceIte,aA,e34,h34,e39,h39];refine cM hb24 (by kernel_rfl) rfl (by simp[z73,Tk.cells]) rfl fun h8 hb8 hE8 hs8=> ?_;simp only[↓zp,zw,↓reduceIte,aA,e34,h34,e39,h39,bQ hb8 (n:=7) rfl];obtain⟨k1,k2⟩:=fin h4 h8 L4 s4 H4 q4 hL4 (by omega) hE8
   exact .inl ⟨_,s4,L4,rfl,k1,k2,⟨5,[],l,0,s.at',s4.at',s.line⟩,rfl,rfl,rfl,rfl,.txt hlt hlet hnum hquo (by omega) hev (by omega) H4.le,congrArg Prod.snd hky⟩
  |false=>
  simp only[↓zp,zw,↓reduceIte,aA,e34,h34,e39,h39,e96]
  cases h96:bY c.src s.at'==96 with
  |true=>
   have hquo:quoB c.src s.at'=true:=by unfold quoB;rw[h96];simp
   simp only[↓zp,zw,↓reduceIte,aA,e34,h34,e39,h39,e96,h96];refine CT_L p1 (vF H1 hlt 6 7) (fun _=>⟨hlt,hlet,.inr (.inl hquo)⟩) rfl fun v s4 h4 L4 hR H4 d4 q4=> ?_;obtain⟨k,l,hk,rfl,hev,hat,hln⟩:=hR
   have hL4:L4≠h.size:=by
    have:=d4.hL;rcases this with e|e
    ·omega
    ·omega
   have hb24:=hb2.ext d4.E (by simp[LC.pc];omega);have hz4:=d4.E.1;simp only[↓zp,zw,↓reduceIte,aA,e34,h34,e39,h39,e96,h96];refine cM hb24 (by kernel_rfl) rfl (by simp[z73,Tk.cells]) rfl fun h8 hb8 hE8 hs8=> ?_;simp only[↓zp,zw,↓reduceIte,aA,e34,h34,e39,h39,e96,h96,bQ hb8 (n:=7) rfl];obtain⟨k1,k2⟩:=fin h4 h8 L4 s4 H4 q4 hL4 (by omega) hE8;have hk2:5≤k∧k≤9:=by omega
   exact .inl ⟨_,s4,L4,rfl,k1,k2,⟨k,[],l,0,s.at',s4.at',s.line⟩,rfl,rfl,rfl,rfl,.txt hlt hlet hnum hquo hk2 hev (by omega) H4.le,hln⟩
  |false=>
  have hquo:quoB c.src s.at'=false:=by unfold quoB;rw[h34,h39,h96];rfl
  simp only[↓zp,zw,↓reduceIte,aA,e34,h34,e39,h39,e96,h96];refine CT_L p1 (sign_c H1) (fun hB=>⟨hlt,hlet,by rcases hB with h|h;exact .inr (.inr (.inl h));exact .inr (.inr (.inr h))⟩) rfl fun v s4 h4 L4 hR H4 d4 q4=> ?_
  have hL4:L4≠h.size:=by
   have:=d4.hL;rcases this with e|e
   ·omega
   ·omega
  have hb24:=hb2.ext d4.E (by simp[LC.pc];omega);have hz4:=d4.E.1;rcases hR with⟨tx,ht,rfl,hat,hop,hln⟩|⟨hne,k,l,hk,rfl,hev,hat,hln⟩
  ·simp only[↓zp,zw,↓reduceIte,aA,e34,h34,e39,h39,e96,h96];refine cM hb24 (by kernel_rfl) rfl (by simp[z73,Tk.cells]) rfl fun h8 hb8 hE8 hs8=> ?_;simp only[↓zp,zw,↓reduceIte,aA,e34,h34,e39,h39,e96,h96,bQ hb8 (n:=7) rfl];obtain⟨k1,k2⟩:=fin h4 h8 L4 s4 H4 q4 hL4 (by omega) hE8;exact .inl ⟨_,s4,L4,rfl,k1,k2,⟨3,tx,[],0,s.at',s4.at',s.line⟩,rfl,rfl,rfl,rfl,.sign hlt hlet hnum hquo ht hop hat,hln⟩
  ·simp only[↓zp,zw,↓reduceIte,aA,e34,h34,e39,h39,e96,h96];refine cM hb24 (by kernel_rfl) rfl (by simp[z73,Tk.cells]) rfl fun h8 hb8 hE8 hs8=> ?_;simp only[↓zp,zw,↓reduceIte,aA,e34,h34,e39,h39,e96,h96,bQ hb8 (n:=7) rfl];obtain⟨k1,k2⟩:=fin h4 h8 L4 s4 H4 q4 hL4 (by omega) hE8;have hk2:5≤k∧k≤9:=by omega
   exact .inl ⟨_,s4,L4,rfl,k1,k2,⟨k,[],l,0,s.at',s4.at',s.line⟩,rfl,rfl,rfl,rfl,.piece hlt hne hk2 hev hat H4.le,hln⟩
end
end
section
def NextC(c:LC)(s:LSt)(v:Value)(s':LSt):Prop:=∃(t:Tk) (j:Nat) (l:Bool),v=.agg t.cells.toArray∧SkipP c.src s.at' false j l∧qT c.src j∧TokR c.src j l s.op t s'.at' s'.op
def NextE(c:LC)(s:LSt):Prop:=∃(j:Nat) (l:Bool),SkipP c.src s.at' false j l∧((qT c.src j∧TokE c.src j s.op)∨(fR nlTexts c.src j=none∧fR blTexts c.src j=none∧comB c.src j=true))
section
variable{h:Heap}{c:LC}{L:Nat}{s:LSt}
theorem next_c(hG:Gl c.hI)(hC:gU c.hI)(hLit:iG c.hI)(H:LS h c L s):C aE 67 #[.pointer (some ⟨c.x,0,none⟩)] h (LOut c h L (NextC c s) (NextE c s)):=by
 have hs:=H.small;have ha:=H.le;have hxl:=H.lt;have hU:=H.list.lt;have hLl:=H.ltL;have hgl:=H.glob.1;have hE1:Ext [] h (h.push (.cells z73.toArray 73)):=Ext.push _ _ _;have hb2:Blk (h.push (.cells z73.toArray 73)) h.size z73 73:=Blk.new;have hz1:(h.push (.cells z73.toArray 73)).size=h.size+1:=by simp
 refine C_in Tryz.func67 rfl rfl (by kernel_rfl) (aG rfl) ?_;simp only[↓zp,zw,aA];rw[show h.push (.cells #[.int .i64 0,.string ⟨#[]⟩,.string ⟨#[]⟩,.float .f64 0,.int .i64 0,.int .i64 0,.bool false] 73)=h.push (.cells z73.toArray 73)from rfl];generalize h.push (.cells z73.toArray 73)=h1 at hE1 hb2 hz1⊢;have H1:=H.ext0 hE1;have p1:Par c.pc h L c.U h1 L c.U:=Par.of_ext hE1;obtain⟨vo,hb,hr,hvo⟩:=H1.body;refine bS hb (by kernel_rfl) (by simp) rfl fun h2 hb2x hE2 hs2=> ?_;obtain⟨s2,e1,e2,e3,H2⟩:=H1.st2 (i:=s.at') (l:=false) hr hvo hb2x hE2 ⟨bA _,ha⟩;have p2:Par c.pc h L c.U h2 L c.U:=p1.trans ⟨.inl rfl,fun _ h=> .inl h,hE2.mono fun y hy=>by simp at hy;simp[hy,LC.pc]⟩;have hl2:Loc h2 c.pc L c.U h.size:=⟨by omega,by show h.size≠c.x;omega,by omega,fun hm=>by have:=hU _ hm;omega⟩;replace hb2:=hb2.ext hE2 (by simp;omega);simp only[↓zp,zw,aA];refine CT_L p2 (skip_c hG hC H2) (fun⟨j,l,k1,k2⟩=>⟨j,l,by rw[←e1,←e2];exact k1,.inr k2⟩) rfl fun v s3 h3 L3 hR H3 d3 q3=> ?_;obtain⟨hsk,hst,hop3⟩:=hR;rw[e1,e2]at hsk;have hb23:=hl2.blk hb2 d3;have hl3:=hl2.par d3;obtain⟨vo3,hb3,_,_⟩:=H3.body;simp only[↓zp,zw,aA,bE hb3];refine CT_L q3 (token_c hG hLit H3) (fun hE=>⟨s3.at',s3.line,hsk,.inl ⟨hst,by rw[←e3,←hop3];exact hE⟩⟩) rfl fun v s4 h4 L4 hR H4 d4 q4=> ?_;obtain⟨t,rfl,ht1,ht2,ht3,htok,ht4⟩:=hR;have hb24:=hl3.blk hb23 d4;have hl4:=hl3.par d4;simp only[↓zp,zw,aA];have hE5:Ext [] h4 (h4.push (.cells z73.toArray 73)):=Ext.push _ _ _;have hb5:Blk (h4.push (.cells z73.toArray 73)) h4.size z73 73:=Blk.new;have hz5:(h4.push (.cells z73.toArray 73)).size=h4.size+1:=by simp
 rw[show h4.push (.cells #[.int .i64 0,.string ⟨#[]⟩,.string ⟨#[]⟩,.float .f64 0,.int .i64 0,.int .i64 0,.bool false] 73)=h4.push (.cells z73.toArray 73)from rfl];generalize h4.push (.cells z73.toArray 73)=h5 at hE5 hb5 hz5⊢;have H5:=H4.ext0 hE5;have hx5:=H4.lt;have hL5:=H4.ltL;have hU5:=H4.list.lt;have hg5:=H4.glob.1;unfold tkV;refine cM hb5 (by kernel_rfl) rfl (by simp[z73,Tk.cells]) rfl fun h6 hb6 hE6 hs6=> ?_;have hf6:h4.size≠c.x∧h4.size≠L4∧h4.size∉c.U∧c.hI.size≤h4.size:=⟨by omega,by omega,fun hm=>by have:=hU5 _ hm;omega,by omega⟩;have H6:=H5.ext hE6 (fun y hy=>by simp at hy;subst hy;exact hf6);replace hb6:Blk h6 h4.size [.int .i64 t.kind,.string ⟨t.text.toArray⟩,.string ⟨t.str.toArray⟩,.float .f64 t.num,.int .i64 0,.int .i64 0,.bool false] 73:=hb6;obtain⟨vo6,hbx6,_,_⟩:=H6.body;simp only[↓zp,zw,aA];refine dL [(0,true),(1,true),(2,true),(3,true),(4,true),(5,true),(6,true),(7,true),(8,true),(9,true),(10,false),(11,true),(12,false),(13,true),(14,false)] (fun h'=>Blk h' c.x [.string ⟨c.src.toArray⟩,.int .i64 (s4.at':Int),.bool s4.line,vo6,c.vl] 99) (by kernel_rfl) (by kernel_rfl) (by kernel_rfl) rfl hbx6 ?_
 iterate 10 refine Wo_t rfl rfl _ (.inl fun h' hS'=>by simp only[rdOp,↓zp,zw,aA,aH,aJ,aK,bE hS'];rfl) ?_
 refine Wo_f rfl rfl ?_;simp only[↓zp,zw,aA];refine bS hb6 (by kernel_rfl) (by simp) rfl fun h7 hb7 hE7 hs7=> ?_;have hbx7:=hbx6.ext hE7 (by simpa using Ne.symm hf6.1);simp only[↓zp,zw,aA];refine⟨hbx7,?_⟩;refine Wo_t rfl rfl _ (.inl fun h' hS'=>by simp only[rdOp,↓zp,zw,aA,aH,aJ,aK];rfl) ?_;refine Wo_f rfl rfl ?_;simp only[↓zp,zw,aA];refine bS hb7 (by kernel_rfl) (by simp) rfl fun h8 hb8 hE8 hs8=> ?_;have hbx8:=hbx7.ext hE8 (by simpa using Ne.symm hf6.1);simp only[↓zp,zw,aA];refine⟨hbx8,?_⟩;refine Wo_t rfl rfl _ (.inl fun h' hS'=>by simp only[rdOp,↓zp,zw,aA,aH,aJ,aK];rfl) ?_;refine Wo_f rfl rfl ?_;simp only[↓zp,zw,aA];refine bS hb8 (by kernel_rfl) (by simp) rfl fun h9 hb9 hE9 hs9=> ?_;have hbx9:=hbx8.ext hE9 (by simpa using Ne.symm hf6.1);simp only[↓zp,zw,aA];refine⟨hbx9,?_⟩;refine kU ?_;simp only[↓zp,zw,aA,bQ hb9 (n:=7) rfl];have hz9:h9.size=h4.size+1:=by omega
 have E69:Ext [] h4 h9:=(((hE5.trans_new hE6 fun y hy=> .inl (by simp at hy;omega)).trans_new hE7 fun y hy=> .inl (by simp at hy;omega)).trans_new hE8 fun y hy=> .inl (by simp at hy;omega)).trans_new hE9 fun y hy=> .inl (by simp at hy;omega);have hb29:=hb24.ext E69 (by simp);have H9:=H4.ext0 E69;refine cM hb29 (by kernel_rfl) rfl (by simp[z73]) rfl fun h10 hb10 hE10 hs10=> ?_;simp only[↓zp,zw,aA,bQ hb10 (n:=7) rfl];have H10:=H9.ext hE10 (fun y hy=>by simp at hy;subst hy;exact⟨by omega,hl4.2.2.1,hl4.2.2.2,by omega⟩);have E10:Ext [c.x,L] h h10:=(q4.E.trans E69.of_nil).trans_new hE10 fun y hy=> .inl (by simp at hy;omega);have hop4:s3.op=s.op:=hop3.trans e3;refine .inl ⟨_,s4,L4,rfl,H10,⟨q4.hL,q4.hU,E10⟩,t,s3.at',s3.line,?_,hsk,hst,by rw[←hop4];exact htok⟩;show Value.agg _=Value.agg _;obtain⟨tk,ttx,tst,tnum,tfr,tto,tln⟩:=t;simp only at ht1 ht2 ht3;subst ht1 ht2;have hln:s4.line=tln:=ht4.trans ht3.symm;rw[hln]
 rfl
end
end
section
theorem yM{hI h:Heap}(hG:Gl hI)(hE:Ext [] hI h)(x:List UInt8)(hx:x.length≤1000000)(ha:∀b,b∈x→b.toNat<128):
 C aE 40 #[.string ⟨x.toArray⟩] h fun e h'=> ∃v,e=.returned v∧Row h' v 9 1 (cI (Lib.fields x))∧blks v=[h.size]∧Ext [] h h'∧h'.size=h.size+1:=by
 intro w hw;subst hw;refine(Tryz.strings_Fields_laid ⟨x.toArray⟩ w (by rw[eU];omega) (fun j b hj=>ha b (List.mem_of_getElem? hj)) (hG.space w hE)).mono ?_;rintro e w' ⟨rfl,rfl⟩;refine⟨⟨rfl,rfl,rfl⟩,_,rfl,?_,rfl,Ext.push _ _ _,Array.size_push _⟩;refine .inr ⟨w.heap.size,_,_,cI (Lib.fields x),rfl,Blk.new,bA _,by simp[cI],by simp[cI],by rw[List.take_length]⟩
def TS(h:Heap)(bl:Nat)(T:List Tk)(LT:Nat):Prop:=∃vt,Blk h bl [vt] 51∧Row h vt 73 7 (T.flatMap Tk.cells)∧(∀b,b∈blks vt→b=LT∧b≠bl)∧LT<h.size
theorem TS.ext{X:List Nat}{h h':Heap}{bl LT:Nat}{T:List Tk}(H:TS h bl T LT)(hE:Ext X h h')(hb:bl∉X)(hL:LT∉X):TS h' bl T LT:=by
 obtain⟨vt,h1,h2,h3,h4⟩:=H;exact⟨vt,h1.ext hE hb,h2.ext hE fun b hb=>(h3 b hb).1▸hL,h3,Nat.lt_of_lt_of_le h4 hE.1⟩
theorem tks_len(T:List Tk):(T.flatMap Tk.cells).length=T.length*7:=kQ Tk.cells 7 Tk.cells_len T
section
variable{h:Heap}{bl LT:Nat}{T:List Tk}
theorem scan1_c(H:TS h bl T LT)(t:Tk)(hT:T.length≤1000000):C aE 38 #[.agg t.cells.toArray,.pointer (some ⟨bl,0,none⟩)] h
 fun e h'=>e=.returned (.bool true)∧∃LT',TS h' bl (T++[t]) LT'∧Par (pcB bl) h LT [] h' LT' []:=by
 obtain⟨vt,hb,hr,hv,hlt⟩:=H;have hbl:=hb.lt;have hE1:Ext [] h (h.push (.cells t.cells.toArray 73)):=Ext.push _ _ _;have hb2:Blk (h.push (.cells t.cells.toArray 73)) h.size t.cells 73:=Blk.new;have hz1:(h.push (.cells t.cells.toArray 73)).size=h.size+1:=by simp
 refine C_in Tryz.func38 rfl rfl (by kernel_rfl) (aG rfl) ?_;simp only[↓zp,zw,aA];generalize h.push (.cells t.cells.toArray 73)=h1 at hE1 hb2 hz1⊢;have hb1:=hb.ext hE1 (by simp);simp only[↓zp,zw,aA,bE hb1,bQ hb2 t.cells_len];have hone:one' t.cells=true:=rfl;refine Wbs_agg (e:=73) Tryz.underlying51 (by kernel_rfl) t.cells_len (by omega) fun v2 h2 hr2 hbv2 hE2 hs2=> ?_;have hb12:=hb1.ext hE2 (by simp);simp only[↓zp,zw,aA]
 refine fX (n:=1) (tx:=51) (e:=73) (sz:=7) (news:=t.cells) ((hr.ext hE1 (by simp)).ext hE2 (by simp)) Tryz.underlying51 (by kernel_rfl) (fun w hw=>by
  obtain⟨n,hn,hs⟩:=hr2.src (P:=aE) (tx:=51) (e':=73) Tryz.underlying51 hone w hw;have:n=1:=by rw[t.cells_len]at hn;omega
  subst this;exact hs) (by rw[tks_len,t.cells_len];omega) fun v3 h3 hr3 hc3=> ?_
 have hE3:Ext (blks vt) h2 h3:=by
  rcases hc3 with⟨_,e,_⟩|⟨_,e,_⟩
  ·exact e
  ·exact e.of_nil
 have hb13:=hb12.ext hE3 fun hm=>(hv _ hm).2 rfl;obtain⟨a3,n3,c3,rfl,_⟩:=hr3.shape;simp only[↓zp,zw,aA];refine bS hb13 (by kernel_rfl) (by simp) rfl fun h4 hb4 hE4 hs4=> ?_;simp only[↓zp,zw,aA]
 have hrow:Row h3 (.slice a3 n3 c3) 73 7 ((T++[t]).flatMap Tk.cells):=by
  have e:(T++[t]).flatMap Tk.cells=T.flatMap Tk.cells++t.cells:=by simp
  rw[e];exact hr3
 refine⟨trivial,?_⟩
 have E04:∀L',(∀b,b∈blks (Value.slice a3 n3 c3)→b=L'∧b≠bl)→(L'=LT∨h.size≤L')→L'<h4.size→∃LT',TS h4 bl (T++[t]) LT'∧Par (pcB bl) h LT [] h4 LT' []:=by
  intro L' k1 k2 k3;refine⟨L',⟨_,hb4,hrow.ext hE4 fun b hb=>by simpa using(k1 b hb).2,k1,k3⟩,k2,fun _ h=> .inl h,?_⟩;exact((hE1.trans hE2).of_nil.trans (hE3.mono fun y hy=>by simp[(hv y hy).1])).trans (hE4.mono fun y hy=>by simp at hy;simp[hy,pcB])
 have hz4:=hE4.1;have hz3:=hE3.1;rcases hc3 with⟨e1,e2,e3⟩|⟨e1,e2,e3⟩
 ·exact E04 LT (fun b hb=>hv b (by rwa [e1]at hb)) (.inl rfl) (by omega)
 ·exact E04 h2.size (fun b hb=>by rw[e1]at hb;simp at hb;omega) (.inr (by omega)) (by omega)
def qX:List UInt8:=[62,62,62,61,32,46,46,46,32,61,61,61,32,33,61,61,32,42,42,61,32,60,60,61,32,62,62,61,32,62,62,62,32,60,61,32,62,61,32,61,61,32,33,61,32,42,42,32,43,43,32,45,45,32,60,60,32,62,62,32,38,38,32,124,124,32,43,61,32,45,61,32,42,61,32,47,61,32,37,61,32,38,61,32,124,61,32,94,61,32,61,62,32,123,32,125,32,40,32,41,32,91,32,93,32,46,32,59,32,44,32,60,32,62,32,43,32,45,32,42,32,47,32,37,32,38,32,124,32,94,32,33,32,126,32,63,32,58,32,61]
theorem uR:Lib.fields qX=signs:=by kernel_rfl
theorem signs_asc:∀b,b∈qX→b.toNat<128:=by decide
theorem bpl99:bpl aE 99=some ([.string .empty,.int .i64 0,.bool false,.slice none 0 0,.slice none 0 0],[(0,1),(1,1),(2,1),(3,1),(4,1)]):=by kernel_rfl
theorem Loc.mono{h h':Heap}{c:PC}{L:Nat}{U:List Nat}{b:Nat}(hl:Loc h c L U b)(hz:h.size≤h'.size):Loc h' c L U b:=⟨Nat.lt_of_lt_of_le hl.1 hz,hl.2⟩
theorem CT_LE {c:LC} {h:Heap} {L fn:Nat} {args:Array Value} {k:Env→Heap→Prop} {ρ:Env} {dst:Option Nat} {R:Value→LSt→Prop} {B:Prop} (hc:C aE fn args h (LOut c h L R B))
 {E:List PanicEntry→Heap→Prop} (hE:∀(p:Nat) h',B→Ext [c.x,L] h h'→E [{v:=.iface 95 (.agg #[.int .i64 (p:Int)]),recovered:=false}] h') {t:Tok (eH k E ρ dst)}
 (hok:∀v s' h1 L1,R v s'→LS h1 c L1 s'→Par c.pc h L c.U h1 L1 c.U→k (ρ.put dst v) h1):CT aE fn args h (eH k E ρ dst) t:=by
 refine bH hc ?_;rintro e h1 (⟨v,s',L',rfl,h2,h3,h4⟩|⟨hb,⟨p,rfl⟩,hE1⟩)
 ·exact hok v s' h1 L' h4 h2 h3
 ·exact hE p h1 hb hE1
def EachOut(src:List UInt8)(bl LT:Nat)(h:Heap)(e:Ending)(h':Heap):Prop:=
 (e=.returned (.tuple #[.int .i64 0,.int .i64 0])∧∃T LT',LexD src T∧TS h' bl T LT'∧Par (pcB bl) h LT [] h' LT' [])∨
 (∃p:Int,e=.returned (.tuple #[.int .i64 p,.int .i64 50])∧LexE src∧Ext [bl,LT] h h')
theorem each_c{hI:Heap}(hG:Gl hI)(hC:gU hI)(hLit:iG hI)(src:List UInt8)(hsrc:src.length≤900000)(hE:Ext [] hI h)(H:TS h bl [] LT)(hbl:hI.size≤bl)(hLT:hI.size≤LT):
 C aE 37 #[.string ⟨src.toArray⟩,.func (.func 38) #[] #[.pointer (some ⟨bl,0,none⟩)]] h (EachOut src bl LT h):=by
 have hbls:bl<h.size:=by obtain⟨_,hb,_⟩:=H;exact hb.lt
 have hLTs:LT<h.size:=by obtain⟨_,_,_,_,h4⟩:=H;exact h4
 have hIs:=hE.1;refine C_rec (args:=[.string ⟨src.toArray⟩,.func (.func 38) #[] #[.pointer (some ⟨bl,0,none⟩)]]) Tryz.func37 rfl (by kernel_rfl) (by kernel_rfl) (aG rfl) (aG rfl) (by kernel_rfl) rfl ?_;simp only[↓zp,zw,aA];have hE0:Ext [] h ((h.push (.cells #[.int .i64 0] 3)).push (.cells #[.int .i64 0] 24)):=(Ext.push _ _ _).trans (Ext.push _ _ _);refine⟨trivial,h.size,(h.push (.cells #[.int .i64 0] 3)).size,rfl,rfl,?_⟩;have hb4:Blk ((h.push (.cells #[.int .i64 0] 3)).push (.cells #[.int .i64 0] 24)) h.size [.int .i64 0] 3:=(Blk.newA (l:=#[.int .i64 0])).ext (Ext.push [] _ _) (by simp);have hb5:Blk ((h.push (.cells #[.int .i64 0] 3)).push (.cells #[.int .i64 0] 24)) (h.push (.cells #[.int .i64 0] 3)).size [.int .i64 0] 24:=Blk.newA (l:=#[.int .i64 0]);have hz0:((h.push (.cells #[.int .i64 0] 3)).push (.cells #[.int .i64 0] 24)).size=h.size+2:=by simp
 have hz5:(h.push (.cells #[.int .i64 0] 3)).size=h.size+1:=by simp
 generalize(h.push (.cells #[.int .i64 0] 3)).push (.cells #[.int .i64 0] 24)=h1 at hb4 hb5 hE0 hz0⊢;generalize(h.push (.cells #[.int .i64 0] 3)).size=b5 at hb5 hz5⊢;generalize hb40:h.size=b4 at hb4;refine bH (yM hG (hE.trans hE0) qX (by decide) signs_asc) ?_;rintro _ h2 ⟨vl,rfl,hrow,hbv,hE2,hz2⟩;rw[uR]at hrow;obtain⟨al,nl,cl,rfl,_⟩:=hrow.shape;simp only[↓zp,zw,aA,bpl99];have hE3:Ext [] h2 (h2.push (.cells #[.string ⟨src.toArray⟩,.int .i64 0,.bool false,.slice none 0 0,.slice al nl cl] 99)):=Ext.push _ _ _;have hbx:Blk (h2.push (.cells #[.string ⟨src.toArray⟩,.int .i64 0,.bool false,.slice none 0 0,.slice al nl cl] 99)) h2.size [.string ⟨src.toArray⟩,.int .i64 ((0:Nat):Int),.bool false,.slice none 0 0,.slice al nl cl] 99:=Blk.newA;have hz3:(h2.push (.cells #[.string ⟨src.toArray⟩,.int .i64 0,.bool false,.slice none 0 0,.slice al nl cl] 99)).size=h2.size+1:=by simp
 generalize h2.push (.cells #[.string ⟨src.toArray⟩,.int .i64 0,.bool false,.slice none 0 0,.slice al nl cl] 99)=h3 at hE3 hbx hz3⊢;have E03:Ext [] h h3:=(hE0.trans hE2).trans hE3
 have hc0:LS h3 ⟨h2.size,src,.slice al nl cl,hI⟩ h2.size {at':=0,line:=false,op:=[]}:=
  ⟨⟨_,hbx,Row.nil,by simp[blks]⟩,by omega,hrow.ext hE3 (by simp),fun b hb=>by
   have hb:b∈blks (.slice al nl cl):=hb;rw[hbv]at hb;simp at hb;subst hb
   exact⟨by show h1.size≠h2.size;omega,by omega⟩,Nat.zero_le _,hsrc,by simp,hE.trans E03,by show hI.size≤h2.size;omega,by show hI.size≤h2.size;omega⟩
 have hsrcE:(⟨h2.size,src,.slice al nl cl,hI⟩:LC).src=src:=rfl;have hIE:(⟨h2.size,src,.slice al nl cl,hI⟩:LC).hI=hI:=rfl;have hxE:(⟨h2.size,src,.slice al nl cl,hI⟩:LC).x=h2.size:=rfl;have hUE:(⟨h2.size,src,.slice al nl cl,hI⟩:LC).U=[h1.size]:=hbv;generalize(⟨h2.size,src,.slice al nl cl,hI⟩:LC)=c at hc0 hsrcE hIE hxE hUE;have hb43:Blk h3 b4 [.int .i64 0] 3:=(hb4.ext hE2 (by simp)).ext hE3 (by simp);have hb53:Blk h3 b5 [.int .i64 0] 24:=(hb5.ext hE2 (by simp)).ext hE3 (by simp);have loc:∀b,b<h1.size→Loc h3 c.pc h2.size c.U b:=fun b hb=>⟨by omega,by show b≠c.x;omega,by omega,by rw[hUE];simp;omega⟩
 refine⟨fun m ρ h'=> ∃s' L' T' LT',ρ 1=.func (.func 38) #[] #[.pointer (some ⟨bl,0,none⟩)]∧ρ 4=.pointer (some ⟨b4,0,none⟩)∧ρ 5=.pointer (some ⟨b5,0,none⟩)∧ρ 6=.pointer (some ⟨c.x,0,none⟩)∧LS h' c L' s'∧TS h' bl T' LT'∧Blk h' b4 [.int .i64 0] 3∧Blk h' b5 [.int .i64 0] 24∧LexP src T' s'.at' s'.op∧
  Loc h' c.pc L' c.U b4∧Loc h' c.pc L' c.U b5∧Loc h' c.pc L' c.U bl∧Loc h' c.pc L' c.U LT'∧b4≠LT'∧b5≠LT'∧hI.size≤LT'∧Ext [bl,LT] h h'∧(LT'=LT∨h.size≤LT')∧h.size≤L'∧m=src.length-s'.at',src.length,
  ⟨_,h2.size,[],LT,by simp only[↓zp,zw,aA],by simp only[↓zp,zw,aA],by simp only[↓zp,zw,aA],by simp only[↓zp,zw,aA,hxE],hc0,H.ext E03 (by simp) (by simp),hb43,hb53,.nil,loc b4 (by omega),loc b5 (by omega),loc bl (by omega),loc LT (by omega),by omega,by omega,hLT,E03.of_nil,.inl rfl,by omega,by dsimp only;omega⟩,?_⟩
 rintro m ρ h4 ⟨s4,L4,T4,LT4,g1,g4,g5,g6,H4,TS4,hb44,hb54,hP,l4,l5,ll,lt,n4,n5,hI4,EF,hLT4,hL4,hm⟩
 have mZ:∀(p:Nat) h',LexE src→Ext [c.x,L4] h4 h'→∃u',settle u'=.returning∧CD aE 66 #[.pointer (some ⟨b4,0,none⟩),.pointer (some ⟨b5,0,none⟩)] (.panicking [{v:=.iface 95 (.agg #[.int .i64 (p:Int)]),recovered:=false}]) u' h' fun h'=> ∃v4 v5,bG h' b4 0=some v4∧bG h' b5 0=some v5∧EachOut src bl LT h (.returned (.tuple #[v4,v5])) h':=by
  intro p h5 hLE hE5;have k4:Blk h5 b4 [.int .i64 0] 3:=hb44.ext hE5 (by have:=l4.2;simp only[List.mem_cons,List.not_mem_nil,or_false,not_or];exact⟨this.1,this.2.1⟩);have k5:Blk h5 b5 [.int .i64 0] 24:=hb54.ext hE5 (by have:=l5.2;simp only[List.mem_cons,List.not_mem_nil,or_false,not_or];exact⟨this.1,this.2.1⟩);refine⟨.panicking [{v:=.iface 95 (.agg #[.int .i64 (p:Int)]),recovered:=true}],rfl,fun w hw=>CallsD.mono (uZ (p:=p) k4 k5 (by omega) w hw) ?_⟩;rintro e u w' ⟨r1,r2,r3,j4,j5,j6⟩;refine⟨r1,r2,r3,.int .i64 p,.int .i64 50,?_,?_,.inr ⟨p,rfl,hLE,?_⟩⟩
  ·rw[bE j4];rfl
  ·rw[bE j5];rfl
  ·refine(EF.trans_new hE5 fun y hy=> ?_).trans_new j6 fun y hy=> ?_
   ·simp at hy;rcases hy with rfl|rfl
    ·exact .inl (by omega)
    ·exact .inl hL4
   ·simp at hy;rcases hy with rfl|rfl
    ·exact .inl (by omega)
    ·exact .inl (by omega)
 simp only[↓zp,zw,aA,g1,g4,g5,g6];refine CT_LE (next_c (hIE▸hG) (hIE▸hC) (hIE▸hLit) H4) (fun p h' hB hE'=>mZ p h' ⟨T4,s4.at',s4.op,?_⟩ hE') fun v s5 h5 L5 hR H5 d5=> ?_
 ·obtain⟨j,l,k1,k2⟩:=hB;rw[hsrcE]at k1 k2;exact⟨j,l,hP,k1,k2⟩
 obtain⟨t,j,l,rfl,hsk,hst,htok⟩:=hR;rw[hsrcE]at hsk hst htok;have hok4:=hP.ok (by omega);have hle:=hsk.le hok4.1;have htk:=htok.ok hle.2 (by omega);have hTl:=hok4.2.1;have TS5:TS h5 bl T4 LT4:=TS4.ext d5.E (by have:=ll.2;simp only[List.mem_cons,List.not_mem_nil,or_false,not_or];exact⟨this.1,this.2.1⟩) (by have:=lt.2;simp only[List.mem_cons,List.not_mem_nil,or_false,not_or];exact⟨this.1,this.2.1⟩);have hb45:=l4.blk hb44 d5;have hb55:=l5.blk hb54 d5;replace l4:=l4.par d5;replace l5:=l5.par d5;replace ll:=ll.par d5;replace lt:=lt.par d5
 have EF5:Ext [bl,LT] h h5:=EF.trans_new d5.E fun y hy=>by
  simp at hy;rcases hy with rfl|rfl
  ·exact .inl (by show h.size≤c.x;omega)
  ·exact .inl hL4
 have hL5:h.size≤L5:=by
  rcases d5.hL with e|e
  ·omega
  ·have:=EF.1;omega
 simp only[↓zp,zw,aA,g1,g4,g5,g6];have hE6:Ext [] h5 (h5.push (.cells z73.toArray 73)):=Ext.push _ _ _;have hb6:Blk (h5.push (.cells z73.toArray 73)) h5.size z73 73:=Blk.new;have hz6:(h5.push (.cells z73.toArray 73)).size=h5.size+1:=by simp
 rw[show h5.push (.cells #[.int .i64 0,.string ⟨#[]⟩,.string ⟨#[]⟩,.float .f64 0,.int .i64 0,.int .i64 0,.bool false] 73)=h5.push (.cells z73.toArray 73)from rfl];generalize h5.push (.cells z73.toArray 73)=h6 at hE6 hb6 hz6⊢;refine cM hb6 (by kernel_rfl) rfl (by simp[z73,Tk.cells]) rfl fun h7 hb7 hE7 hs7=> ?_;have E57:Ext [] h5 h7:=hE6.trans_new hE7 fun y hy=> .inl (by simp at hy;omega);have hb77:Blk h7 h5.size t.cells 73:=hb7;have H7:=H5.ext0 E57;have TS7:=TS5.ext E57 (by simp) (by simp);simp only[↓zp,zw,aA,g1,g4,g5,g6,bQ hb77 t.cells_len];refine bH (scan1_c TS7 t (by omega)) ?_;rintro _ h8 ⟨rfl,LT8,TS8,q8⟩;have hz8:=q8.E.1;have hE8:Ext [bl,LT4] h7 h8:=q8.E;have hbs5:=ll.1;have hls5:=lt.1;have hb78:Blk h8 h5.size t.cells 73:=hb77.ext hE8 (by simp;omega);have hIc:=hIE
 have H8:=H7.ext hE8 (fun y hy=>by
  simp at hy;rcases hy with rfl|rfl
  ·exact⟨ll.2.1,ll.2.2.1,ll.2.2.2,by rw[hIE];exact hbl⟩
  ·exact⟨lt.2.1,lt.2.2.1,lt.2.2.2,by rw[hIE];exact hI4⟩)
 have hb48:=(hb45.ext E57 (by simp)).ext hE8 (by simp;omega);have hb58:=(hb55.ext E57 (by simp)).ext hE8 (by simp;omega);have hx7:=H7.lt;have hL7:=H7.ltL;have hU7:=H7.list.lt;have hLTs8:LT8<h8.size:=by obtain⟨_,_,_,_,h⟩:=TS8;exact h
 have l8:Loc h8 c.pc L5 c.U LT8:=by
  rcases q8.hL with e|e
  ·rw[e];exact lt.mono (by omega)
  ·exact⟨hLTs8,by show LT8≠c.x;omega,by omega,fun hm=>by have:=hU7 _ hm;omega⟩
 have hs45:=l4.1;have hs55:=l5.1
 have n48:b4≠LT8:=by
  rcases q8.hL with e|e
  ·rw[e];exact n4
  ·omega
 have n58:b5≠LT8:=by
  rcases q8.hL with e|e
  ·rw[e];exact n5
  ·omega
 have EF8:Ext [bl,LT] h h8:=(EF5.trans E57.of_nil).trans_new hE8 fun y hy=>by
  simp at hy;rcases hy with rfl|rfl
  ·exact .inr (by simp)
  ·rcases hLT4 with e|e
   ·exact .inr (by simp[e])
   ·exact .inl e
 have hLT8:LT8=LT∨h.size≤LT8:=by
  rcases q8.hL with e|e
  ·rw[e];exact hLT4
  ·have:=EF5.1;exact .inr (by omega)
 have cK:bG h8 h5.size 0=some (.int .i64 (t.kind:Int)):=by rw[bE hb78];rfl
 by_cases hk:t.kind=0
 ·have d1:((t.kind:Int)==0)=true:=by simp[hk]
  simp only[↓zp,zw,aA,g1,g4,g5,g6,cK,d1];refine bS hb48 (by kernel_rfl) (by simp) rfl fun h9 hb9 hE9 hs9=> ?_;have hb59:=hb58.ext hE9 (by simp;omega);simp only[↓zp,zw,aA,g1,g4,g5,g6];refine bS hb59 (by kernel_rfl) (by simp) rfl fun h10 hb10 hE10 hs10=> ?_;have hb410:=hb9.ext hE10 (by simp;omega);simp only[↓zp,zw,aA,g1,g4,g5,g6];refine⟨by simp,fun w hw=>CallsD.mono (rec66_idle w hw) ?_⟩;rintro e u w' ⟨r1,r2,r3,r4⟩;refine⟨r1,r2,r3,.int .i64 0,.int .i64 0,?_,?_,.inl ⟨rfl,T4++[t],LT8,⟨T4,_,_,j,l,t,_,_,rfl,hP,hsk,hst,htok,hk⟩,?_,?_⟩⟩
  ·rw[r4,bE hb410];rfl
  ·rw[r4,bE hb10];rfl
  ·rw[r4];exact(TS8.ext hE9 (by simp;omega) (by simpa using Ne.symm n48)).ext hE10 (by simp;omega) (by simpa using Ne.symm n58)
  ·rw[r4];refine⟨hLT8,fun _ h=> .inl h,?_⟩;exact(EF8.trans_new hE9 fun y hy=> .inl (by simp at hy;omega)).trans_new hE10 fun y hy=> .inl (by simp at hy;omega)
 ·have d1:((t.kind:Int)==0)=false:=by simp;omega
  simp only[↓zp,zw,aA,g1,g4,g5,g6,cK,d1];have hprog:=htk.2.2.2.1 hk;have hle5:=htk.2.1;exact⟨src.length-s5.at',by omega,s5,L5,T4++[t],LT8,by first|trivial|simp only[↓zp,zw,aA,g1],by first|trivial|simp only[↓zp,zw,aA,g4],by first|trivial|simp only[↓zp,zw,aA,g5],by first|trivial|simp only[↓zp,zw,aA,g6],H8,TS8,hb48,hb58,.more hP hsk hst htok hk,l4.mono (by omega),l5.mono (by omega),ll.mono (by omega),l8,n48,n58,by rcases q8.hL with e|e<;>omega,EF8,hLT8,hL5,rfl⟩
end
end
section
def ScanOut(src:List UInt8)(h:Heap)(e:Ending)(h':Heap):Prop:=
 (∃vt T,e=.returned (.tuple #[vt,.int .i64 0,.int .i64 0])∧LexD src T∧Row h' vt 73 7 (T.flatMap Tk.cells)∧(∀b,b∈blks vt→h.size≤b)∧Ext [] h h')∨
 (∃a n:Int,e=.returned (.tuple #[.slice none 0 0,.int .i64 a,.int .i64 n])∧n≠0∧(ascB src→LexE src)∧Ext [] h h')
section
variable{h hI:Heap}
theorem may_c(hD:jM (Ext [] hI))(hE:Ext [] hI h)(src:List UInt8)(hs:src.length≤262144):
 C aE 36 #[.string ⟨src.toArray⟩] h fun e h'=> ∃a n:Int,e=.returned (.tuple #[.int .i64 a,.int .i64 n])∧(ascB src→n=0)∧Ext [] h h':=by
 have d1:decide ((262144:Int)<(src.length:Int))=false:=bD (by omega);refine C_in Tryz.func36 rfl rfl (by kernel_rfl) (aG rfl) ?_;simp only[↓zp,zw,aA,d1];refine bH (of_c hD src (fun _ h' k=>hE.trans k) (by omega)) ?_;rintro _ h1 ⟨v,a,n,rfl,h0,hasc,hE1⟩;simp only[↓zp,zw,aA];exact⟨a,n,rfl,fun h=>(hasc h).2.2,hE1⟩
theorem scan_c(hG:Gl hI)(hC:gU hI)(hLit:iG hI)(hD:jM (Ext [] hI))(hE:Ext [] hI h)(src:List UInt8)(hs:src.length≤262144):
 C aE 18 #[.string ⟨src.toArray⟩] h (ScanOut src h):=by
 have hIs:=hE.1;have z0:((0:Int) !=0)=false:=by decide
 have z50:((50:Int) !=0)=true:=by decide
 refine C_in Tryz.func18 rfl rfl (by kernel_rfl) (aG rfl) ?_;simp only[↓zp,zw,aA];refine bH (may_c hD hE src hs) ?_;rintro _ h1 ⟨a,n,rfl,hasc,hE1⟩
 cases hn:n !=0 with
 |true=>
  simp only[↓zp,zw,aA,hn];have hn0:n≠0:=by simpa using hn
  exact .inr ⟨a,n,rfl,hn0,fun h=>absurd (hasc h) hn0,hE1⟩
 |false=>
 simp only[↓zp,zw,aA,hn];have hE2:Ext [] h1 (h1.push (.cells #[.slice none 0 0] 51)):=Ext.push _ _ _;have hb2:Blk (h1.push (.cells #[.slice none 0 0] 51)) h1.size [.slice none 0 0] 51:=Blk.newA;have hz2:(h1.push (.cells #[.slice none 0 0] 51)).size=h1.size+1:=by simp
 generalize h1.push (.cells #[.slice none 0 0] 51)=h2 at hE2 hb2 hz2⊢;have hz1:=hE1.1;have E2:Ext [] h h2:=hE1.trans hE2;have T2:TS h2 h1.size [] h1.size:=⟨_,hb2,Row.nil,by simp[blks],by omega⟩;refine bH (each_c hG hC hLit src (by omega) (hE.trans E2) T2 (by omega) (by omega)) ?_;rintro _ h3 (⟨rfl,T,LT,hD,TS3,q3⟩|⟨p,rfl,hLE,hE3⟩)
 ·obtain⟨vt,hb3,hr3,hv3,hl3⟩:=TS3;simp only[↓zp,zw,aA,hn,z0,bE hb3];refine .inl ⟨vt,T,rfl,hD,hr3,fun b hb=> ?_,E2.trans_new q3.E fun y hy=> ?_⟩
  ·have:=(hv3 b hb).1;rcases q3.hL with e|e<;>omega
  ·simp[pcB]at hy;exact .inl (by omega)
 ·simp only[↓zp,zw,aA,hn,z50];exact .inr ⟨p,50,rfl,by decide,fun _=>hLE,E2.trans_new hE3 fun y hy=> .inl (by simp at hy;omega)⟩
end
end
section
theorem M_bind_i{α:Type}{f:Nat→M α}{s:St}:((fun s=>Res.ok s.i s:M Nat)>>=f) s=f s.i s:=rfl
theorem nd_run{α:Type}{n:Nat}{f:Nd→M α}{s:St}{r:Res α}(h:(ndM n>>=f) s=r)(hne:r≠ .out):∃x,s.ns[n]? =some x∧f x s=r:=by
 cases hx:s.ns[n]? with
 |none=>exact absurd (by rw[←h,eK (by unfold ndM;rw[hx])]) hne
 |some x=>exact⟨x,rfl,by rw[←h,eX (a:=x) (s':=s) (by unfold ndM;rw[hx])]⟩
theorem PS.tokAt{h:Heap}{c:PC}{L:Nat}{U:List Nat}{s:St}(hp:PS h c L U s){i:Nat}(hi:i<c.T.length):
 ∃b cap,c.vt=.slice (some ⟨b,0,none⟩) c.T.length cap∧b<h.size∧∀j,j<7→bG h b (i*7+j)=(c.T.getD i default).cells[j]?:=by
 have hl:=kQ Tk.cells 7 Tk.cells_len c.T;obtain⟨b,n,cap,cs,h1,h2,h3,h4,h5⟩:=hp.toks.open (by omega);have hn:n=c.T.length:=by omega
 subst hn;have hx:c.T[i]? =some (c.T.getD i default):=by rw[List.getD_eq_getElem?_getD,aS hi];rfl
 refine⟨b,cap,h1,h2.lt,fun j hj=> ?_⟩;rw[Row.cell (n:=c.T.length) (cap:=cap) h2 h4 (by rw[hl];omega),fm_get Tk.cells 7 Tk.cells_len _ _ _ _ hx hj]
section
variable{c:PC}{h:Heap}{L:Nat}{U:List Nat}{s:St}{n:Nat}{r:Res Nat}
theorem yZ(hB:Below c.T n)(hp:PS h c L U s)(hr:(run c.T n).e (.accessor) s=r)(hne:r≠ .out):
 C aE 267 #[.pointer (some ⟨c.p,0,none⟩)] h (POut c h L U r vint):=by
 cases n with
 |zero=>exact absurd hr.symm hne
 |succ n=>
 obtain⟨hr,_⟩:=dP hr hne;simp only[dJ,kM]at hr;have hq:Par c h L U h L U:=Par.refl _ _ _ _;refine C_in Tryz.func267 rfl rfl (by kernel_rfl) (aG rfl) ?_;simp only[↓zp,zv,↓reduceIte,aA];refine bO hp hq (eC hp) fun h hp hd hq hE=> ?_;simp only[↓zp,zv,↓reduceIte,aA];have hbx:Blk (h.push (.cells (nowT c.T (s)).cells.toArray 73)) h.size (nowT c.T (s)).cells 73:=Blk.new;have hlx:Loc (h.push (.cells (nowT c.T (s)).cells.toArray 73)) c _ _ h.size:=Loc.new hp (bA _) (by simp);have hEx:Ext [] h (h.push (.cells (nowT c.T (s)).cells.toArray 73)):=Ext.push _ _ _;have hp:=hp.ext0 hEx;have hq:=hq.ext0 hEx;generalize h.push (.cells (nowT c.T (s)).cells.toArray 73)=hx at hbx hlx hEx hp hq⊢;generalize hzx:h.size=bx at hbx hlx⊢;obtain⟨hlt,hr⟩:=cE hr hne;obtain⟨vl,hbp⟩:=hp.p;have hpl:=hbp.lt;have w1:=dV hp;simp only[↓zp,zv,↓reduceIte,aA,bE hbp,hpl,w1];refine cX hp hq hlt fun h hp hd hq=> ?_;have hbx:=hlx.blk hbx hd;have hlx:=hlx.par hd;generalize nowT c.T _=t at hr hbx;simp only[↓zp,zv,↓reduceIte,aA];refine bF hq hr hne (fun r1 g1 g2=>(hB n (by omega)).1 c _ _ _ _ (.key) 268 _ r1 rfl rfl hp g1 g2) rfl fun k s h L U _ hr hp hd hq=> ?_;have hbx:=hlx.blk hbx hd;have hlx:=hlx.par hd;obtain⟨vl1,hbp⟩:=hp.p;have hpl:=hbp.lt;simp only[↓zp,zv,↓reduceIte,aA,bE hbp,hpl];rw[M_bind_i]at hr;generalize hfi:s.i=fi at hr;refine bF hq hr hne (fun r1 g1 g2=>(hB n (by omega)).1 c _ _ _ _ (.parameters) 97 _ r1 rfl rfl hp g1 g2) rfl fun ps s h L U _ hr hp hd hq=> ?_;have hbx:=hlx.blk hbx hd;have hlx:=hlx.par hd;obtain⟨y,hy,hr⟩:=nd_run hr hne;obtain⟨bn,cap,kv,hbp,hbl,hcell,hko⟩:=hp.nodeAt hy;have hpl:=hbp.lt;have hn:0≤(ps:Int)∧(ps:Int)<(s.ns.length:Nat):=by have:=(List.getElem?_eq_some_iff.1 hy).1;omega
 have hc4:=hcell 4 (by omega);simp only[bM,fI,fP]at hc4;obtain⟨ak,ck,hkv,hkc⟩:=hko.1.cellOne;rw[cW]at hkv hkc;simp only at hkv;dsimp only at hkc;simp only[↓zp,zv,↓reduceIte,aA,bE hbp,hpl,hn,aF,hc4,bE hbx];cases q1:t.text==([103,101,116]:List UInt8)
 ·simp only[q1,Bool.false_and,aI,if_false]at hr;simp only[↓zp,zv,↓reduceIte,aA,q1,hkv];refine bR 21 (by kernel_rfl) (by kernel_rfl) (by kernel_rfl) ?_;simp only[↓zp,zv,↓reduceIte,aA,bE hbx,q1];cases q2:t.text==([115,101,116]:List UInt8)
  ·simp only[q2,aI,if_false]at hr;rw[eP]at hr;simp only[aI,if_false]at hr;simp only[↓zp,zv,↓reduceIte,aA,q1,q2,bE hbx];refine bF hq hr hne (fun _=>at_c hp ps) rfl fun pp s h L U _ hr hp hd hq=> ?_;have hbx:=hlx.blk hbx hd;have hlx:=hlx.par hd;simp only[↓zp,zv,↓reduceIte,aA];refine bF hq hr hne (fun r1 g1 g2=>(hB n (by omega)).1 c _ _ _ _ (.block) 101 _ r1 rfl rfl hp g1 g2) rfl fun b s h L U _ hr hp hd hq=> ?_;have hbx:=hlx.blk hbx hd;have hlx:=hlx.par hd;simp only[↓zp,zv,↓reduceIte,aA];refine bJ (vals:=[ps,b]) hp hq rfl rfl (by omega) (by omega) fun v h hk hp hd hq hbv hE=> ?_;have hxxk:=bX hlx (Or.inr hbv);have hbx:=hlx.blk hbx hd;have hlx:=hlx.par hd;simp only[↓zp,zv,↓reduceIte,aA];refine bZ hq hk.2 hr hne (fun _=>bT hp 13 _ _ _ hk.1) rfl fun f s h L U _ hr hp hd hq=> ?_;have hbx:=hlx.blkX hbx hd;have hlx:=hlx.parX hd hxxk;simp only[↓zp,zv,↓reduceIte,aA,bE hbx];refine bJ (vals:=[k,f]) hp hq rfl rfl (by omega) (by omega) fun v h hk hp hd hq hbv hE=> ?_;have hxxk:=bX hlx (Or.inr hbv);have hbx:=hlx.blk hbx hd;have hlx:=hlx.par hd;simp only[↓zp,zv,↓reduceIte,aA];refine bP hq hk.2 hr hne (fun _=>bT hp 11 _ _ _ hk.1) rfl fun a s h _ hR=> ?_;simp only[↓zp,zv,↓reduceIte,aA];exact hR
  ·simp only[q2,if_true]at hr;simp only[↓zp,zv,↓reduceIte,aA,q1,q2,hkv];by_cases hl:y.kids.length=1
   ·obtain⟨k0,hkk⟩:=List.length_eq_one_iff.1 hl;have el:(((y.kids.length:Nat):Int) !=1)=false:=by simp[hl]
    have hl':(0:Int)≤0∧(0:Int)<((y.kids.length:Nat):Int):=by omega
    obtain⟨bk,rfl,hk0⟩:=hkc 0 (by omega);have hk0':bG h bk 0=some (.int .i64 (k0:Int)):=by rw[hk0,hkk];rfl
    simp only[hl,if_true]at hr;rw[dR]at hr;obtain⟨z,hz,hr⟩:=nd_run hr hne;rw[hkk]at hz;simp only[List.headD_cons]at hz;rw[eP]at hr;obtain⟨bn',cap',kv',hbp',hbl',hcell',hko'⟩:=hp.nodeAt hz;have hz0:=hcell' 0 (by omega);simp only[bM,fI,Nat.add_zero]at hz0;have hn0:0≤(k0:Int)∧(k0:Int)<(s.ns.length:Nat):=by have:=(List.getElem?_eq_some_iff.1 hz).1;omega
    simp only[↓zp,zv,↓reduceIte,aA,el,q2,hkv,hl',aN,aQ,hk0',bE hbp',hpl,hn0,aF,hz0];by_cases h6:z.kind=6
    ·have e6:((z.kind:Int) !=6)=false:=by simp[h6]
     simp only[h6,ne_eq,not_true_eq_false,decide_false,aI,if_false]at hr;simp only[↓zp,zv,↓reduceIte,aA,e6,q1,q2,el,bE hbx];refine bF hq hr hne (fun _=>at_c hp ps) rfl fun pp s h L U _ hr hp hd hq=> ?_;have hbx:=hlx.blk hbx hd;have hlx:=hlx.par hd;simp only[↓zp,zv,↓reduceIte,aA];refine bF hq hr hne (fun r1 g1 g2=>(hB n (by omega)).1 c _ _ _ _ (.block) 101 _ r1 rfl rfl hp g1 g2) rfl fun b s h L U _ hr hp hd hq=> ?_;have hbx:=hlx.blk hbx hd;have hlx:=hlx.par hd;simp only[↓zp,zv,↓reduceIte,aA];refine bJ (vals:=[ps,b]) hp hq rfl rfl (by omega) (by omega) fun v h hk hp hd hq hbv hE=> ?_;have hxxk:=bX hlx (Or.inr hbv);have hbx:=hlx.blk hbx hd;have hlx:=hlx.par hd;simp only[↓zp,zv,↓reduceIte,aA];refine bZ hq hk.2 hr hne (fun _=>bT hp 13 _ _ _ hk.1) rfl fun f s h L U _ hr hp hd hq=> ?_;have hbx:=hlx.blkX hbx hd;have hlx:=hlx.parX hd hxxk;simp only[↓zp,zv,↓reduceIte,aA,bE hbx];refine bJ (vals:=[k,f]) hp hq rfl rfl (by omega) (by omega) fun v h hk hp hd hq hbv hE=> ?_;have hxxk:=bX hlx (Or.inr hbv);have hbx:=hlx.blk hbx hd;have hlx:=hlx.par hd;simp only[↓zp,zv,↓reduceIte,aA];refine bP hq hk.2 hr hne (fun _=>bT hp 12 _ _ _ hk.1) rfl fun a s h _ hR=> ?_;simp only[↓zp,zv,↓reduceIte,aA];exact hR
    ·have e6:((z.kind:Int) !=6)=true:=by simp;omega
     simp only[h6,ne_eq,not_false_eq_true,decide_true,if_true]at hr;simp only[↓zp,zv,↓reduceIte,aA,e6,q1,q2,el,bE hbx]
     have hlt2:fi+2<c.T.length:=by
      by_cases hq9:fi+2<c.T.length
      ·exact hq9
      ·rw[if_neg hq9]at hr;exact absurd hr.symm hne
     rw[if_pos hlt2]at hr;obtain⟨bt,capt,hvt,hbt,hct⟩:=hp.tokAt (i:=fi+1) (by omega);have ht0:=hct 0 (by omega);have w3:IntKind.i64.wrap ((fi:Int)+1)=((fi+1:Nat):Int):=by have:=hp.big;rw[aU _ (by omega)];simp
     have hi3:(0:Int)≤((fi+1:Nat):Int)∧((fi+1:Nat):Int)<((c.T.length:Nat):Int):=by omega
     rw[Nat.add_zero]at ht0;generalize c.T.getD (fi+1) default=t1 at hr ht0 hct;simp only[↓zp,zv,↓reduceIte,aA,bE hbp,hpl,hvt,w3,hi3,aF,ht0];by_cases hk1:t1.kind=1
     ·have ek:((t1.kind:Int)==1)=true:=by simp[hk1]
      have w4:IntKind.i64.wrap (((fi+1:Nat):Int)+1)=((fi+2:Nat):Int):=by have:=hp.big;rw[aU _ (by omega)];simp;omega
      have hi4:(0:Int)≤((fi+2:Nat):Int)∧((fi+2:Nat):Int)<((c.T.length:Nat):Int):=by omega
      obtain⟨bt',capt',hvt',hbt',hct'⟩:=hp.tokAt (i:=fi+2) (by omega);rw[hvt]at hvt';simp only[Value.slice.injEq,Option.some.injEq,Addr.mk.injEq,and_true,true_and]at hvt';obtain⟨rfl,rfl⟩:=hvt';have ht4:=hct' 4 (by omega);rw[if_pos hk1,if_pos (by omega)]at hr;simp only[↓zp,zv,↓reduceIte,aA,ek,bE hbp,hpl,hvt,w3,w4,hi4,aF,ht4];refine eF ?_;subst hr;exact⟨rfl,hq.E⟩
     ·have ek:((t1.kind:Int)==1)=false:=by simp;omega
      have ht4:=hct 4 (by omega);rw[if_neg hk1]at hr;simp only[↓zp,zv,↓reduceIte,aA,ek,bE hbp,hpl,hvt,w3,hi3,aF,ht4];refine eF ?_;subst hr;exact⟨rfl,hq.E⟩
   ·have el:(((y.kids.length:Nat):Int) !=1)=true:=by simp;omega
    simp only[hl,if_false]at hr;rw[eP]at hr;simp only[if_true]at hr;simp only[↓zp,zv,↓reduceIte,aA,el,q2,hkv]
    have hlt2:fi+2<c.T.length:=by
     by_cases hq9:fi+2<c.T.length
     ·exact hq9
     ·rw[if_neg hq9]at hr;exact absurd hr.symm hne
    rw[if_pos hlt2]at hr;obtain⟨bt,capt,hvt,hbt,hct⟩:=hp.tokAt (i:=fi+1) (by omega);have ht0:=hct 0 (by omega);have w3:IntKind.i64.wrap ((fi:Int)+1)=((fi+1:Nat):Int):=by have:=hp.big;rw[aU _ (by omega)];simp
    have hi3:(0:Int)≤((fi+1:Nat):Int)∧((fi+1:Nat):Int)<((c.T.length:Nat):Int):=by omega
    rw[Nat.add_zero]at ht0;generalize c.T.getD (fi+1) default=t1 at hr ht0 hct;simp only[↓zp,zv,↓reduceIte,aA,bE hbp,hpl,hvt,w3,hi3,aF,ht0];by_cases hk1:t1.kind=1
    ·have ek:((t1.kind:Int)==1)=true:=by simp[hk1]
     have w4:IntKind.i64.wrap (((fi+1:Nat):Int)+1)=((fi+2:Nat):Int):=by have:=hp.big;rw[aU _ (by omega)];simp;omega
     have hi4:(0:Int)≤((fi+2:Nat):Int)∧((fi+2:Nat):Int)<((c.T.length:Nat):Int):=by omega
     obtain⟨bt',capt',hvt',hbt',hct'⟩:=hp.tokAt (i:=fi+2) (by omega);rw[hvt]at hvt';simp only[Value.slice.injEq,Option.some.injEq,Addr.mk.injEq,and_true,true_and]at hvt';obtain⟨rfl,rfl⟩:=hvt';have ht4:=hct' 4 (by omega);rw[if_pos hk1,if_pos (by omega)]at hr;simp only[↓zp,zv,↓reduceIte,aA,ek,bE hbp,hpl,hvt,w3,w4,hi4,aF,ht4];refine eF ?_;subst hr;exact⟨rfl,hq.E⟩
    ·have ek:((t1.kind:Int)==1)=false:=by simp;omega
     have ht4:=hct 4 (by omega);rw[if_neg hk1]at hr;simp only[↓zp,zv,↓reduceIte,aA,ek,bE hbp,hpl,hvt,w3,hi3,aF,ht4];refine eF ?_;subst hr;exact⟨rfl,hq.E⟩
 ·have q2:(t.text==([115,101,116]:List UInt8))=false:=by rw[eq_of_beq q1];rfl
  by_cases hl:0<y.kids.length
  ·obtain⟨k0,ks,hkk⟩:∃k0 ks,y.kids=k0::ks:=by
    cases hkk:y.kids with
    |nil=>rw[hkk]at hl;simp at hl
    |cons a l=>exact⟨a,l,rfl⟩
   have el:decide ((0:Int)<((y.kids.length:Nat):Int))=true:=by simp;omega
   have hl':(0:Int)≤0∧(0:Int)<((y.kids.length:Nat):Int):=by omega
   obtain⟨bk,rfl,hk0⟩:=hkc 0 hl;have hk0':bG h bk 0=some (.int .i64 (k0:Int)):=by rw[hk0,hkk];rfl
   simp only[q1,Bool.true_and,hl,decide_true,if_true]at hr;simp only[↓zp,zv,↓reduceIte,aA,decide_true,q1,hkv,el,hl',aN,aQ,hk0'];rw[hkk]at hr;simp only[List.headD_cons]at hr;refine bF hq hr hne (fun _=>at_c hp k0) rfl fun pk s h L U _ hr hp hd hq=> ?_;have hbx:=hlx.blk hbx hd;have hlx:=hlx.par hd;simp only[↓zp,zv,↓reduceIte,aA];refine eF ?_;subst hr;exact⟨rfl,hq.E⟩
  ·have hnil:y.kids=[]:=List.eq_nil_of_length_eq_zero (by omega);have el:decide ((0:Int)<((y.kids.length:Nat):Int))=false:=by simp;omega
   simp only[q1,q2,Bool.true_and,hl,decide_false,aI,if_false]at hr;rw[eP]at hr;simp only[aI,if_false]at hr;simp only[↓zp,zv,↓reduceIte,aA,q1,hkv,el];refine bR 21 (by kernel_rfl) (by kernel_rfl) (by kernel_rfl) ?_;simp only[↓zp,zv,↓reduceIte,aA,bE hbx,q1,q2];refine bF hq hr hne (fun _=>at_c hp ps) rfl fun pp s h L U _ hr hp hd hq=> ?_;have hbx:=hlx.blk hbx hd;have hlx:=hlx.par hd;simp only[↓zp,zv,↓reduceIte,aA];refine bF hq hr hne (fun r1 g1 g2=>(hB n (by omega)).1 c _ _ _ _ (.block) 101 _ r1 rfl rfl hp g1 g2) rfl fun b s h L U _ hr hp hd hq=> ?_;have hbx:=hlx.blk hbx hd;have hlx:=hlx.par hd;simp only[↓zp,zv,↓reduceIte,aA];refine bJ (vals:=[ps,b]) hp hq rfl rfl (by omega) (by omega) fun v h hk hp hd hq hbv hE=> ?_;have hxxk:=bX hlx (Or.inr hbv);have hbx:=hlx.blk hbx hd;have hlx:=hlx.par hd;simp only[↓zp,zv,↓reduceIte,aA];refine bZ hq hk.2 hr hne (fun _=>bT hp 13 _ _ _ hk.1) rfl fun f s h L U _ hr hp hd hq=> ?_;have hbx:=hlx.blkX hbx hd;have hlx:=hlx.parX hd hxxk;simp only[↓zp,zv,↓reduceIte,aA,bE hbx];refine bJ (vals:=[k,f]) hp hq rfl rfl (by omega) (by omega) fun v h hk hp hd hq hbv hE=> ?_;have hxxk:=bX hlx (Or.inr hbv);have hbx:=hlx.blk hbx hd;have hlx:=hlx.par hd;simp only[↓zp,zv,↓reduceIte,aA];refine bP hq hk.2 hr hne (fun _=>bT hp 11 _ _ _ hk.1) rfl fun a s h _ hR=> ?_;simp only[↓zp,zv,↓reduceIte,aA];exact hR
end
end
section
def Fn1.args:Fn1→List Nat
 | .exprLoop _ k| .tplLoop _ k| .arrLoop _ k| .objLoop _ k| .declLoop _ _ _ k| .chLoop _ _ k| .parLoop _ k=>k
 | .binLoop _ _ a=>[a]
 | .tail e _=>[e]
 |_=>[]
def FnL.args:FnL→List Nat
 | .listLoop k| .argLoop k=>k
 |_=>[]
def Fn1.lo:Fn1→Nat
 | .exprLoop .. | .binLoop .. | .tail .. =>0
 | .parameters=>2
 |_=>1
def Fn1.sl:Fn1→Nat
 | .exprLoop .. =>0
 | .binLoop .. | .tail .. =>1
 | .expression .. =>4
 | .statement .. | .body=>3
 | .key=>8
 |_=>5
def FnL.lo:FnL→Nat
 | .arguments=>2
 | .argLoop _=>1
 |_=>0
def FnL.sl:FnL→Nat
 | .arguments=>9
 | .argLoop _=>9
 |_=>1
def Fn1.rank:Fn1→Nat
 | .expression _=>20| .exprLoop .. =>0| .assignment _=>18| .conditional _=>16| .binary .. =>14| .binLoop .. =>0| .power=>12| .unary=>10| .member=>8
 | .maker=>6| .tail .. =>1| .primary=>6| .template=>4| .tplLoop .. =>2| .array=>2| .arrLoop .. =>23| .object=>2| .objLoop .. =>27| .property=>26
 | .key=>25| .accessor=>4| .argument=>22| .parens=>2| .statement=>30| .block=>2| .body=>32| .declaration _=>24| .declLoop .. =>1| .lett=>25
 | .function _=>2| .branch _=>2| .whil _=>2| .doo _=>2| .leave _=>2| .back _=>2| .throw _=>2| .tryy _=>2| .choice _=>2| .chLoop .. =>2
 | .loop _=>2| .each .. =>1| .parameters=>3| .parLoop .. =>2
def FnL.rank:FnL→Nat
 | .list=>36| .listLoop _=>35| .arguments=>0| .argLoop _=>0
def xT(x:List UInt8):Prop:=x≠[108,101,116]∧x≠[99,111,110,115,116]∧x≠[102,117,110,99,116,105,111,110]
def chKids(ns:List Nd)(known:Bool)(l:List Nat):Prop:=∃e m,l=e::m∧hasK ns e cG∧allK ns m nB∧if known then
 ∃l1 l2,m=l1++l2∧allK ns l1 (·==50)∧∃d l3,l2=d::l3∧hasK ns d (·==51)∧allK ns l3 (·==50)
 else allK ns m (·==50)
def Fn1.Pre(src:List UInt8)(T:List Tk)(s:St):Fn1→Prop
 | .exprLoop _ k=>k≠[]∧allK s.ns k cG∧s.ns.length≤8*s.i+3
 | .binLoop l _ a=>hasK s.ns a cG∧1≤l
 | .binary l _=>1≤l
 | .tail e _=>hasK s.ns e cG
 | .template=>(nowT T s).kind=6∨(nowT T s).kind=7
 | .tplLoop p k=>(nowT T s).kind≠0∧p≤src.length∧AltE s.ns k
 | .arrLoop p k=>p≤src.length∧allK s.ns k argK
 | .objLoop p k=>p≤src.length∧allK s.ns k lH
 | .accessor=>(nowT T s).kind=1∧((nowT T s).text=([103,101,116]:List UInt8)∨(nowT T s).text=([115,101,116]:List UInt8))
 | .declaration _| .lett=>(nowT T s).kind≠0
 | .declLoop _ k p l=>fN k=true∧p≤src.length∧allK s.ns l (·==35)
 | .function p| .branch p| .whil p| .doo p| .leave p| .back p| .throw p| .tryy p| .choice p| .loop p=>(nowT T s).kind≠0∧p≤src.length
 | .chLoop p known k=>p≤src.length∧chKids s.ns known k
 | .each p d=>p≤src.length∧(if d then(nowT T s).kind≠0∧(bU T s 1).kind=1∧iO (bU T s 2)=true else(nowT T s).kind=1∧iO (bU T s 1)=true)
 | .parLoop p k=>p≤src.length∧allK s.ns k (·==6)
 |_=>True
def FnL.Pre(s:St):FnL→Prop
 | .listLoop k=>allK s.ns k iN
 | .argLoop k=>allK s.ns k argK
 |_=>True
def Fn1.Post(T:List Tk)(s:St)(ns:List Nd)(a:Nat):Fn1→Prop
 | .property=>hasK ns a lH
 | .key=>hasK ns a keyK
 | .accessor=>hasK ns a lH
 | .argument=>hasK ns a argK
 | .statement=>hasK ns a iN∧(xT (nowT T s).txt→IsBody ns a)
 | .block=>hasK ns a (·==32)
 | .body| .branch _| .whil _| .doo _| .leave _| .back _| .throw _| .tryy _| .choice _| .chLoop .. | .loop _| .each .. =>IsBody ns a∧hasK ns a iN
 | .declaration _| .declLoop .. | .lett=>hasK ns a fN
 | .function _=>hasK ns a (·==53)
 | .parameters| .parLoop .. =>hasK ns a (·==30)
 |_=>hasK ns a cG
def FnL.Post(ns:List Nd)(l:List Nat):FnL→Prop
 | .list| .listLoop _=>allK ns l iN
 |_=>allK ns l argK
def Goal(src:List UInt8)(T:List Tk)(f:Fn1)(s:St)(F:List Nat)(a:Nat)(s':St):Prop:=
 Ok src T s' (a::F)∧s.ns<+:s'.ns∧s.i+f.lo≤s'.i∧s'.ns.length+f.sl≤s.ns.length+8*(s'.i-s.i)+1∧f.Post T s s'.ns a
def zG(src:List UInt8)(T:List Tk)(f:FnL)(s:St)(F:List Nat)(l:List Nat)(s':St):Prop:=
 Ok src T s' (l++F)∧s.ns<+:s'.ns∧s.i+f.lo≤s'.i∧s'.ns.length+f.sl≤s.ns.length+8*(s'.i-s.i)+1∧f.Post s'.ns l
structure Specs(src:List UInt8)(T:List Tk)(n:Nat):Prop where
 e:∀(f:Fn1) (s:St) (F:List Nat),Ok src T s (f.args++F)→f.Pre src T s→40*(T.length-s.i)+f.rank+1≤n→TrR ((run T n).e f s) (Goal src T f s F)
 l:∀(f:FnL) (s:St) (F:List Nat),Ok src T s (f.args++F)→f.Pre s→40*(T.length-s.i)+f.rank+1≤n→TrR ((run T n).l f s) (zG src T f s F)
section
variable{src:List UInt8}{T:List Tk}{n:Nat}{α:Type}{s:St}{F:List Nat}(ih:Specs src T n)
include ih
theorem Specs.go {k:Nat→M α} {Q:α→St→Prop} (f:Fn1) (hok:Ok src T s (f.args++F)) (hp:f.Pre src T s) (hm:40*(T.length-s.i)+f.rank+1≤n)
 (H:∀a s',Ok src T s' (a::F)→s.ns<+:s'.ns→s.i+f.lo≤s'.i→s'.ns.length+f.sl≤s.ns.length+8*(s'.i-s.i)+1→f.Post T s s'.ns a→TrR (k a s') Q):TrR (((run T n).e f>>=k) s) Q:=
 TrR.bind ((ih.e f s F hok hp hm).mono fun a s' ⟨h1,h2,h3,h4,h5⟩=>H a s' h1 h2 h3 h4 h5)
theorem Specs.goL {Q:Nat→St→Prop} (f:Fn1) (hok:Ok src T s (f.args++F)) (hp:f.Pre src T s) (hm:40*(T.length-s.i)+f.rank+1≤n)
 (H:∀a s',Ok src T s' (a::F)→s.ns<+:s'.ns→s.i+f.lo≤s'.i→s'.ns.length+f.sl≤s.ns.length+8*(s'.i-s.i)+1→f.Post T s s'.ns a→Q a s'):TrR ((run T n).e f s) Q:=
 (ih.e f s F hok hp hm).mono fun a s' ⟨h1,h2,h3,h4,h5⟩=>H a s' h1 h2 h3 h4 h5
theorem Specs.gol {k:List Nat→M α} {Q:α→St→Prop} (f:FnL) (hok:Ok src T s (f.args++F)) (hp:f.Pre s) (hm:40*(T.length-s.i)+f.rank+1≤n)
 (H:∀a s',Ok src T s' (a++F)→s.ns<+:s'.ns→s.i+f.lo≤s'.i→s'.ns.length+f.sl≤s.ns.length+8*(s'.i-s.i)+1→f.Post s'.ns a→TrR (k a s') Q):TrR (((run T n).l f>>=k) s) Q:=
 TrR.bind ((ih.l f s F hok hp hm).mono fun a s' ⟨h1,h2,h3,h4,h5⟩=>H a s' h1 h2 h3 h4 h5)
theorem Specs.golL {Q:List Nat→St→Prop} (f:FnL) (hok:Ok src T s (f.args++F)) (hp:f.Pre s) (hm:40*(T.length-s.i)+f.rank+1≤n)
 (H:∀a s',Ok src T s' (a++F)→s.ns<+:s'.ns→s.i+f.lo≤s'.i→s'.ns.length+f.sl≤s.ns.length+8*(s'.i-s.i)+1→f.Post s'.ns a→Q a s'):TrR ((run T n).l f s) Q:=
 (ih.l f s F hok hp hm).mono fun a s' ⟨h1,h2,h3,h4,h5⟩=>H a s' h1 h2 h3 h4 h5
theorem Specs.go0 {k:Nat→M α} {Q:α→St→Prop} (f:Fn1) (h0:f.args=[]) (hok:Ok src T s F) (hp:f.Pre src T s) (hm:40*(T.length-s.i)+f.rank+1≤n)
 (H:∀a s',Ok src T s' (a::F)→s.ns<+:s'.ns→s.i+f.lo≤s'.i→s'.ns.length+f.sl≤s.ns.length+8*(s'.i-s.i)+1→f.Post T s s'.ns a→TrR (k a s') Q):TrR (((run T n).e f>>=k) s) Q:=
 ih.go f (by rw[h0];exact hok) hp hm H
theorem Specs.goL0 {Q:Nat→St→Prop} (f:Fn1) (h0:f.args=[]) (hok:Ok src T s F) (hp:f.Pre src T s) (hm:40*(T.length-s.i)+f.rank+1≤n)
 (H:∀a s',Ok src T s' (a::F)→s.ns<+:s'.ns→s.i+f.lo≤s'.i→s'.ns.length+f.sl≤s.ns.length+8*(s'.i-s.i)+1→f.Post T s s'.ns a→Q a s'):TrR ((run T n).e f s) Q:=
 ih.goL f (by rw[h0];exact hok) hp hm H
theorem Specs.gol0 {k:List Nat→M α} {Q:α→St→Prop} (f:FnL) (h0:f.args=[]) (hok:Ok src T s F) (hp:f.Pre s) (hm:40*(T.length-s.i)+f.rank+1≤n)
 (H:∀a s',Ok src T s' (a++F)→s.ns<+:s'.ns→s.i+f.lo≤s'.i→s'.ns.length+f.sl≤s.ns.length+8*(s'.i-s.i)+1→f.Post s'.ns a→TrR (k a s') Q):TrR (((run T n).l f>>=k) s) Q:=
 ih.gol f (by rw[h0];exact hok) hp hm H
end
theorem exprK_arg{k:Nat}(h:cG k=true):argK k=true:=by simp[argK,h]
theorem hasK.of{ns:List Nd}{n:Nat}{y:Nd}{p:Nat→Bool}(h:ns[n]? =some y)(hp:p y.kind=true):hasK ns n p:=⟨y,h,hp⟩
section
variable{src:List UInt8}{T:List Tk}{n:Nat}{s:St}{F:List Nat}
theorem uJ(hT:cN src T)(ih:Specs src T n)(inn:Bool)(hok:Ok src T s F)(hm:40*(T.length-s.i)+20≤n):TrR (iR (run T n) inn s) (Goal src T (.expression inn) s F):=by
 have hc0:=hok.cnt;unfold iR;refine ih.go0 (.assignment inn) rfl hok trivial (by have hlt:=hok.lt;simp only[Fn1.rank,FnL.rank]at*;omega) fun a1 s1 hok x1 i1 c1 k=> ?_;have hc1:=hok.cnt;simp only[Fn1.lo,Fn1.sl,Fn1.Post,FnL.lo,FnL.sl,FnL.Post]at i1 c1 k
 try simp only[aC,aB,aD]at i1
 try simp only[aC,aB,aD]at c1
 try simp only[aC,aB,aD]at hc1
 refine ih.goL (.exprLoop inn [a1]) (F:=F) (hok.perm (aM.2 (by intro z;simp only[aO,aT,aV,Fn1.args,FnL.args];try omega))) (⟨by simp,.cons k .nil,by omega⟩) (by have hlt:=hok.lt;simp only[Fn1.rank,FnL.rank]at*;omega) fun a2 s2 hok x2 i2 c2 k2=> ?_;have hc2:=hok.cnt;simp only[Fn1.lo,Fn1.sl,Fn1.Post,FnL.lo,FnL.sl,FnL.Post]at i2 c2 k2
 try simp only[aC,aB,aD]at i2
 try simp only[aC,aB,aD]at c2
 try simp only[aC,aB,aD]at hc2
 exact⟨hok,(x1.trans x2),by simp only[Fn1.lo,FnL.lo];try omega,by simp only[aC,aB,aD,Fn1.sl,FnL.sl];try omega,k2⟩
theorem zV(hT:cN src T)(ih:Specs src T n)(inn:Bool)(kids:List Nat)(hok:Ok src T s (kids++F))(hp:(Fn1.exprLoop inn kids).Pre src T s)(hm:40*(T.length-s.i)≤n):TrR (kJ T (run T n) inn kids s) (Goal src T (.exprLoop inn kids) s F):=by
 have hc0:=hok.cnt;obtain⟨hne,hall,hcnt⟩:=hp;unfold kJ;refine TrR.take hT hok (x:=([44]:List UInt8)) (by simp) (fun hx hok=> ?_) (fun hx=> ?_)<;>simp only[if_true,aI,if_false]
 ·refine ih.go0 (.assignment inn) rfl hok trivial (by have hlt:=hok.lt;simp only[Fn1.rank,FnL.rank]at*;omega) fun a1 s1 hok x1 i1 c1 k=> ?_;have hc1:=hok.cnt;simp only[Fn1.lo,Fn1.sl,Fn1.Post,FnL.lo,FnL.sl,FnL.Post]at i1 c1 k
  try simp only[aC,aB,aD]at i1
  try simp only[aC,aB,aD]at c1
  try simp only[aC,aB,aD]at hc1
  have hall:=hall.mono x1;refine ih.goL (.exprLoop inn (kids++[a1])) (F:=F) (hok.perm (aM.2 (by intro z;simp only[aO,aT,aV,Fn1.args,FnL.args];try omega))) (⟨by simp,hall.snoc k,by omega⟩) (by have hlt:=hok.lt;simp only[Fn1.rank,FnL.rank]at*;omega) fun a2 s2 hok x2 i2 c2 k2=> ?_;have hc2:=hok.cnt;simp only[Fn1.lo,Fn1.sl,Fn1.Post,FnL.lo,FnL.sl,FnL.Post]at i2 c2 k2
  try simp only[aC,aB,aD]at i2
  try simp only[aC,aB,aD]at c2
  try simp only[aC,aB,aD]at hc2
  exact⟨hok,(x1.trans x2),by simp only[Fn1.lo,FnL.lo];try omega,by simp only[aC,aB,aD,Fn1.sl,FnL.sl];try omega,k2⟩
 ·match kids,hne with
  |[k],_=>
   exact⟨hok,List.prefix_refl _,by simp[Fn1.lo],by simp[Fn1.sl],hall k (by simp)⟩
  |a::b::l,_=>
   refine TrR.pos hok (hall a (by simp)) fun q hq=> ?_;refine TrR.addL (F:=F) hT (hok.perm (aM.2 (by intro z;simp only[aO,aT,aV,Fn1.args,FnL.args];try omega))) ⟨((Shape.seq hall)),.inr ⟨by first|(simp;done)|(simp;omega),rfl⟩,.inr ⟨by first|(simp;done)|(simp;omega),rfl⟩,hq,(fun h=>by simp at h)⟩ (by first|omega|(simp only[aC,aB,aD];omega)) fun hok x1 y1=> ?_;have k:=y1;have hc1:=hok.cnt;simp only[aC,aB,aD]at hc1;exact⟨hok,x1,by simp only[Fn1.lo,FnL.lo];try omega,by simp only[aC,aB,aD,Fn1.sl,FnL.sl];try omega,(.of k rfl)⟩
end
end
end Go.Proofs.YtfmbepijhnaklaaGreatDoor

/- Proved here: Rows that grow by append, slices' literals, makes, panics, in the light calculus | The light calculus' rules in two bundles | Maps whose keys are texts, in the light calculus | The shelf's contracts at the level of heaps | The parser as a function of Lean | What a tree of the parser's is. Conditions: what each statement names. -/
import Derived.Test.YtfmbepijhnaklaaGreatDoorK02
import Derived.Deep.AppendSrc
import Derived.Room.Entries
import Derived.Great.BuildSlice
import Derived.Deep.OwnRows
import Derived.MapKept
import Derived.Test.YtfmbepijhnaklaaGreatDoorK01
import Derived.Laws.FloatArith
set_option maxRecDepth 100000
set_option maxHeartbeats 4000000
set_option linter.unusedSimpArgs false
set_option linter.unusedVariables false
set_option linter.defProp false
open Nat renaming reduceEqDiff → aA, le_of_ble_eq_true → aG, mul_one → aP, zero_mul → aQ, zero_add → aR, reduceBEq → aY, reduceAdd → aZ, le_refl → bA
open List renaming length_cons → aB, length_append → aC, length_nil → aD, map_toArray → aH, map_cons → aJ, map_nil → aK, perm_iff_count → aM, count_append → aO, getElem?_eq_getElem → aS, count_cons → aT, count_nil → aV
open Go.Proofs.Tryz renaming prog → aE
open Int renaming toNat_natCast → aF, toNat_zero → aN, toNat_one → aX
open Bool renaming false_eq_true → aI, eq_iff_iff → aW
open And renaming intro → aL
open Go.IntWalk renaming i64_in → aU
namespace Go.Proofs.YtfmbepijhnaklaaGreatDoor
section
def blks:Value→List Nat
 | .slice (some a) _ _=>[a.block]
 |_=>[]
def Row(h:Heap)(v:Value)(e sz:Nat)(xs:List Value):Prop:=
 (v=.slice none 0 0∧xs=[])∨
 ∃b n cap cs,v=.slice (some ⟨b,0,none⟩) n cap∧Blk h b cs e∧n≤cap∧n*sz=xs.length∧cap*sz≤cs.length∧cs.take xs.length=xs
theorem Row.nil{h:Heap}{e sz:Nat}:Row h (.slice none 0 0) e sz []:=.inl ⟨rfl,rfl⟩
theorem Row.ext{X:List Nat}{h h':Heap}{v:Value}{e sz:Nat}{xs:List Value}(hr:Row h v e sz xs)(hE:Ext X h h')(hx:∀b,b∈blks v→b∉X):Row h' v e sz xs:=by
 rcases hr with hr|⟨b,n,cap,cs,rfl,hb,h1⟩
 ·exact .inl hr
 ·exact .inr ⟨b,n,cap,cs,rfl,hb.ext hE (hx b (by simp[blks])),h1⟩
theorem Row.lt{h:Heap}{v:Value}{e sz:Nat}{xs:List Value}(hr:Row h v e sz xs):∀b,b∈blks v→b<h.size:=by
 rcases hr with⟨rfl,_⟩|⟨b,n,cap,cs,rfl,hb,h1⟩
 ·simp[blks]
 ·intro c hc;simp[blks]at hc;subst hc;exact hb.lt
theorem Row.shape{h:Heap}{v:Value}{e sz:Nat}{xs:List Value}(hr:Row h v e sz xs):∃a n c,v=.slice a n c∧n*sz=xs.length:=by
 rcases hr with⟨rfl,rfl⟩|⟨b,n,cap,cs,rfl,hb,h1,h2,_⟩
 ·exact⟨none,0,0,rfl,by simp⟩
 ·exact⟨_,n,cap,rfl,h2⟩
theorem Row.open{h:Heap}{v:Value}{e sz:Nat}{xs:List Value}(hr:Row h v e sz xs)(hpos:0<xs.length):
 ∃b n cap cs,v=.slice (some ⟨b,0,none⟩) n cap∧Blk h b cs e∧n*sz=xs.length∧cs.take xs.length=xs∧xs.length≤cs.length:=by
 rcases hr with⟨rfl,rfl⟩|⟨b,n,cap,cs,rfl,hb,h1,h2,h3,h4⟩
 ·simp at hpos
 ·exact⟨b,n,cap,cs,rfl,hb,h2,h4,by rw[←h4];simp;omega⟩
theorem qR{cs xs:List Value}(h:cs.take xs.length=xs){j:Nat}(hj:j<xs.length):cs[j]? =xs[j]?:=by
 have h1:(cs.take xs.length)[j]? =xs[j]?:=by rw[h]
 rw[List.getElem?_take,if_pos hj]at h1;exact h1
theorem Row.cell{h:Heap}{b n cap e:Nat}{cs xs:List Value}(hb:Blk h b cs e)(ht:cs.take xs.length=xs){j:Nat}(hj:j<xs.length):bG h b j=xs[j]?:=by
 rw[bE hb];exact qR ht hj
theorem Row.src{P:Program}{h:Heap}{v:Value}{e sz tx e':Nat}{xs:List Value}(hr:Row h v e sz xs)(hk:P.underlying tx=some (.slice e'))(h1:one' xs=true):
 ∀w:World,w.heap=h→∃n,n*sz=xs.length∧Src P sz tx v n xs w:=by
 intro w hw;subst hw;rcases hr with⟨rfl,rfl⟩|⟨b,n,cap,cs,rfl,hb,h2,h3,h4,h5⟩
 ·exact⟨0,by simp,Src.ofNil (w:=w) hk 0⟩
 ·refine⟨n,h3,Src.ofSlice (w:=w) hk ⟨b,0,none⟩ n cap xs h3.symm (fun j u hj=> ?_) (gO.1 h1)⟩;have hjl:j<xs.length:=(List.getElem?_eq_some_iff.1 hj).1;rw[eL,cell?_heap,aR,Row.cell (n:=n) (cap:=cap) hb h5 hjl,hj]
def einf(P:Program)(e sz:Nat):Bool:=match P.info? e with
 |some i=>match i.zero with
  |some z=>decide (i.size=sz)&&decide (z.cells.size=sz)&&decide (i.bytes≤128)&&decide (0<sz)
  |none=>false
 |none=>false
theorem mQ{P:Program}{e sz:Nat}(h:einf P e sz=true):∃i z,P.info? e=some i∧i.zero=some z∧i.size=sz∧z.cells.size=sz∧i.bytes≤128∧0<sz:=by
 unfold einf at h;split at h
 ·rename_i i hi;split at h
  ·rename_i z hz;simp only[Bool.and_eq_true,decide_eq_true_eq]at h;exact⟨i,z,hi,hz,h.1.1.1,h.1.1.2,h.1.2,h.2⟩
  ·cases h
 ·cases h
def eD(P:Program)(op:Op)(ty:TypeId)(dst:Option Nat)(ρ:Env)(h:Heap)(k:Env→Heap→Prop)(E:List PanicEntry→Heap→Prop)(_:Tok (dst,ρ,k,E)):Prop:=
 Wsem P ⟨dst,op,ty,"",#[],none⟩ ρ h k E
section
variable{P:Program}{ops:List Oper}{K:Env→Heap→Prop}{E:List PanicEntry→Heap→Prop}{l:List Oper}{ρ:Env}{h:Heap}{ty:TypeId}{pos:String}{aft:Array Edge}{dst:Option Nat}{k:Env→Heap→Prop}
theorem Wl_append2{x y:Operand}{tys:Array Nat}:Wl P ops K E (⟨dst,.call ⟨.builtin .append,#[x,y],tys⟩,ty,pos,aft,none⟩::l) ρ h=
 eD P (.call ⟨.builtin .append,#[.const (ev ρ x),.const (ev ρ y)],tys⟩) ty dst ρ h (Wl P ops K E l) E tok:=by
 show Wsem P _ ρ h _ E=Wsem P _ ρ h _ E;unfold Wsem;simp only[execOp,resolve,aH,aJ,aK,dZ]
 rfl
theorem Wl_copy{x y:Operand}{tys:Array Nat}:Wl P ops K E (⟨dst,.call ⟨.builtin .copy,#[x,y],tys⟩,ty,pos,aft,none⟩::l) ρ h=
 eD P (.call ⟨.builtin .copy,#[.const (ev ρ x),.const (ev ρ y)],tys⟩) ty dst ρ h (Wl P ops K E l) E tok:=by
 show Wsem P _ ρ h _ E=Wsem P _ ρ h _ E;unfold Wsem;simp only[execOp,resolve,aH,aJ,aK,dZ]
 rfl
theorem tA{t n:Nat}{ps:List (Nat×Operand)}:Wl P ops K E (⟨dst,.buildSlice t n ps.toArray,ty,pos,aft,none⟩::l) ρ h=
 eD P (.buildSlice t n (ps.map fun p=>(p.1,Operand.const (ev ρ p.2))).toArray) ty dst ρ h (Wl P ops K E l) E tok:=by
 show Wsem P _ ρ h _ E=Wsem P _ ρ h _ E;unfold Wsem;simp only[execOp,aH,List.map_map]
 rfl
theorem wP{t:Nat}{x y:Operand}:Wl P ops K E (⟨dst,.makeSlice t x y,ty,pos,aft,none⟩::l) ρ h=
 eD P (.makeSlice t (.const (ev ρ x)) (.const (ev ρ y))) ty dst ρ h (Wl P ops K E l) E tok:=rfl
theorem Wl_panic{x:Operand}:Wl P ops K E (⟨dst,.panic x,ty,pos,aft,none⟩::l) ρ h=
 eD P (.panic (.const (ev ρ x))) ty dst ρ h (Wl P ops K E l) E tok:=rfl
theorem Wl_range{t:Nat}{x:Operand}:Wl P ops K E (⟨dst,.range t x,ty,pos,aft,none⟩::l) ρ h=
 eD P (.range t (.const (ev ρ x))) ty dst ρ h (Wl P ops K E l) E tok:=rfl
theorem Wl_next{x:Operand}{c:Bool}:Wl P ops K E (⟨dst,.next x c,ty,pos,aft,none⟩::l) ρ h=
 eD P (.next (.const (ev ρ x)) c) ty dst ρ h (Wl P ops K E l) E tok:=rfl
theorem Wl_makeMap{t:Nat}:Wl P ops K E (⟨dst,.makeMap t none,ty,pos,aft,none⟩::l) ρ h=
 eD P (.makeMap t none) ty dst ρ h (Wl P ops K E l) E tok:=rfl
theorem Wl_insert{t:Nat}{x y z:Operand}:Wl P ops K E (⟨dst,.insert t x y z,ty,pos,aft,none⟩::l) ρ h=
 eD P (.insert t (.const (ev ρ x)) (.const (ev ρ y)) (.const (ev ρ z))) ty dst ρ h (Wl P ops K E l) E tok:=rfl
theorem wO{t:Nat}{x y z:Operand}:Wl P ops K E (⟨dst,.mapUpdate t x y z,ty,pos,aft,none⟩::l) ρ h=
 eD P (.mapUpdate t (.const (ev ρ x)) (.const (ev ρ y)) (.const (ev ρ z))) ty dst ρ h (Wl P ops K E l) E tok:=rfl
theorem Wl_lookup{t:Nat}{x y:Operand}{c:Bool}:Wl P ops K E (⟨dst,.lookup t x y c,ty,pos,aft,none⟩::l) ρ h=
 eD P (.lookup t (.const (ev ρ x)) (.const (ev ρ y)) c) ty dst ρ h (Wl P ops K E l) E tok:=rfl
theorem sZ{t u:Nat}{x:Operand}{c:Bool}:Wl P ops K E (⟨dst,.typeAssert x t u c,ty,pos,aft,none⟩::l) ρ h=
 eD P (.typeAssert (.const (ev ρ x)) t u c) ty dst ρ h (Wl P ops K E l) E tok:=rfl
theorem pO{x y:Operand}{tys:Array Nat}:Wl P ops K E (⟨dst,.call ⟨.builtin .unsafeString,#[x,y],tys⟩,ty,pos,aft,none⟩::l) ρ h=
 eD P (.call ⟨.builtin .unsafeString,#[.const (ev ρ x),.const (ev ρ y)],tys⟩) ty dst ρ h (Wl P ops K E l) E tok:=by
 show Wsem P _ ρ h _ E=Wsem P _ ρ h _ E;unfold Wsem;simp only[execOp,resolve,aH,aJ,aK,dZ]
 rfl
theorem nJ{x:Operand}{tys:Array Nat}:Wl P ops K E (⟨dst,.call ⟨.builtin .unsafeSliceData,#[x],tys⟩,ty,pos,aft,none⟩::l) ρ h=
 eD P (.call ⟨.builtin .unsafeSliceData,#[.const (ev ρ x)],tys⟩) ty dst ρ h (Wl P ops K E l) E tok:=by
 show Wsem P _ ρ h _ E=Wsem P _ ρ h _ E;unfold Wsem;simp only[execOp,resolve,aH,aJ,aK,dZ]
 rfl
theorem fZ{s:Sem Value}{v:Value}{w w':World}(h:s.run P w=.ok v w'):((do pure (Next.value (←s))):Sem Next).run P w=.ok (.value v) w':=by
 rw[Sem.run_bind,h];rfl
theorem yB{s:Sem Unit}{w w':World}(h:s.run P w=.ok () w'):((do s;pure Next.skip):Sem Next).run P w=.ok .skip w':=by
 rw[Sem.run_bind,h];rfl
theorem eR{op:Op}{tk:Tok (dst,ρ,k,E)}(H:∀w:World,w.heap=h→∃v w',(execOp (ev ρ) ⟨dst,op,ty,"",#[],none⟩).run P w=.ok (.value v) w'∧Amb w w'∧k (ρ.put dst v) w'.heap):
 eD P op ty dst ρ h k E tk:=by
 intro w hw;obtain⟨v,w',hr,ha,hk⟩:=H w hw;rw[hr];exact⟨ha,hk⟩
theorem Wsem_skip{op:Op}{tk:Tok (dst,ρ,k,E)}(H:∀w:World,w.heap=h→∃w',(execOp (ev ρ) ⟨dst,op,ty,"",#[],none⟩).run P w=.ok .skip w'∧Amb w w'∧k (ρ.put dst undef) w'.heap):
 eD P op ty dst ρ h k E tk:=by
 intro w hw;obtain⟨w',hr,ha,hk⟩:=H w hw;rw[hr];exact⟨ha,hk⟩
theorem eF{t:Nat}{v:Value}{tk:Tok (dst,ρ,k,E)}(H:E [{v:=.iface t v,recovered:=false}] h):eD P (.panic (.const (.iface t v))) ty dst ρ h k E tk:=by
 intro w hw;subst hw;exact⟨Amb.refl _,H⟩
theorem mY(b:Nat):∀(l:List Value) (o:Nat) (w:World),(w.setCells b o l).heap=eZ w.heap b o l∧Amb w (w.setCells b o l)
 |[],_,w=>⟨rfl,Amb.refl w⟩
 |v::l,o,w=>by
  obtain⟨h1,h2⟩:=mY b l (o+1) (w.setCell ⟨b,o,none⟩ v);exact⟨by rw[World.setCells,h1,mN];rfl,⟨h2.os,h2.tape,h2.output⟩⟩
theorem qV{b:Nat}{cs:List Value}{t:Nat}{xs news:List Value}(hb:Blk h b cs t)(ht:cs.take xs.length=xs)(hx:xs.length≤cs.length)(hl:xs.length+news.length≤cs.length):
 ∃cs',Blk (eZ h b xs.length news) b cs' t∧cs'.length=cs.length∧cs'.take (xs++news).length=xs++news:=by
 obtain⟨g1,g2,g3⟩:=lF (l':=news) (o:=xs.length) hb hl;refine⟨_,g1,by simp;omega,?_⟩;rw[ht];exact List.take_left' rfl
theorem fX {v x:Value} {t tx e sz n:Nat} {xs news:List Value} {tk:Tok (dst,ρ,k,E)} (hr:Row h v e sz xs) (hu:P.underlying t=some (.slice e)) (he:einf P e sz=true)
 (hsrc:∀w:World,w.heap=h→Src P sz tx x n news w) (hbig:xs.length+news.length≤1073741824)
 (H:∀v' h',Row h' v' e sz (xs++news)→((blks v'=blks v∧Ext (blks v) h h'∧h'.size=h.size)∨(blks v'=[h.size]∧Ext [] h h'∧h'.size=h.size+1))→k (ρ.put dst v') h'):
 eD P (.call ⟨.builtin .append,#[.const v,.const x],#[t,tx]⟩) ty dst ρ h k E tk:=by
 refine eR fun w hw=> ?_;obtain⟨i,z,hi,hz,hsize,hzs,hbytes,hpos⟩:=mQ he;have hS:=hsrc w hw;subst hw;have hnl:=hS.newsLen
 have ok:∀u w',(Builtin.append_ #[t,tx] ty #[v,x]).run P w=.ok u w'→(execOp (ev ρ) ⟨dst,.call ⟨.builtin .append,#[.const v,.const x],#[t,tx]⟩,ty,"",#[],none⟩).run P w=.ok (.value u) w':=by
  intro u w' hu;show((do let d←resolve (ev ρ) ⟨.builtin .append,#[.const v,.const x],#[t,tx]⟩ ty;invoke d.target d.args):Sem Next).run P w=_;simp only[resolve,aH,aJ,aK,dZ];exact fZ hu
 subst hsize
 have grow:∀(base:Option Addr) (len cap:Nat),v=.slice base len cap→len≤cap→len*i.size=xs.length→cap<len+n→(∀w':World,w'.heap=w.heap→(Builtin.firstCells i.size len (.slice base len cap)).run P w'=.ok xs.toArray w')→
  ∃u w',(execOp (ev ρ) ⟨dst,.call ⟨.builtin .append,#[.const v,.const x],#[t,tx]⟩,ty,"",#[],none⟩).run P w=.ok (.value u) w'∧Amb w w'∧k (ρ.put dst u) w'.heap:=by
  intro base len cap hv hlc hlen hg hold;subst hv;have hlx:len≤xs.length:=by rw[←hlen];exact Nat.le_mul_of_pos_right _ hpos
  have hnx:n≤news.length:=by rw[hnl];exact Nat.le_mul_of_pos_right _ hpos
  have hneed:len+n≤1073741824:=by omega
  have h63:((len+n:Nat):Int)≤9223372036854775807:=by omega
  have hfit:Builtin.nextslicecap (len+n) cap*i.bytes≤281474976710656:=by
   have h1:=Room.nextslicecap_le' hg;have h2:Builtin.nextslicecap (len+n) cap*i.bytes≤(2*(len+n))*128:=Nat.mul_le_mul h1 hbytes;omega
  have hrun:=run_append_grow_src (P:=P) (w:=w) t tx ty e i z hu hi hz base len cap xs (hold w.drew rfl) x n news hS hg h63 hfit;refine⟨_,_,ok _ _ hrun,⟨rfl,rfl,rfl⟩,?_⟩
  have hcap:len+n≤grownCap w (len+n) cap e:=by
   show len+n≤(len+n)+_%_;omega
  have hh:(w.drew.alloc (.cells ((xs++news).toArray++Builtin.zeroCells z.cells (grownCap w (len+n) cap e-(len+n))) e)).heap=
   w.heap.push (.cells ((xs++news).toArray++Builtin.zeroCells z.cells (grownCap w (len+n) cap e-(len+n))) e):=rfl
  rw[hh];refine H _ _ (.inr ⟨w.heap.size,len+n,grownCap w (len+n) cap e,_,rfl,Blk.newA,hcap,?_,?_,?_⟩) (.inr ⟨rfl,Ext.push _ _ _,by simp⟩)
  ·simp[Nat.add_mul,hlen,hnl]
  ·have:(Builtin.zeroCells z.cells (grownCap w (len+n) cap e-(len+n))).size=(grownCap w (len+n) cap e-(len+n))*i.size:=by simp[Builtin.zeroCells,hzs]
   simp only[Array.toList_append,aC,Array.length_toList,this,List.size_toArray];rw[←hlen,hnl,←Nat.add_mul,←Nat.add_mul];have:len+n+(grownCap w (len+n) cap e-(len+n))=grownCap w (len+n) cap e:=by omega
   rw[this];exact bA _
  ·rw[Array.toList_append];exact List.take_left' rfl
 rcases hr with⟨rfl,rfl⟩|⟨b,len,cap,cs,rfl,hb,hlc,hlen,hcc,htk⟩
 ·by_cases hn:0<n
  ·exact grow none 0 0 rfl (bA _) (by simp) (by omega) (fun w' _=>rfl)
  ·have hn0:n=0:=by omega
   subst hn0;have hnews:news=[]:=List.eq_nil_of_length_eq_zero (by rw[hnl];simp);subst hnews
   have hrun:(Builtin.append_ #[t,tx] ty #[.slice none 0 0,x]).run P w=.ok (.slice none 0 0) w:=by
    rcases hS.kind with⟨e',hk⟩|hk<;>simp[Builtin.append_,run_underlying hu,run_underlying hk,sizeOf,typeInfo,hi,hS.len,hS.cells]
   exact⟨_,_,ok _ _ hrun,Amb.refl _,H _ _ (.inl ⟨rfl,rfl⟩) (.inl ⟨rfl,Ext.refl _ _,rfl⟩)⟩
 ·have hxc:xs.length≤cs.length:=by rw[←htk];simp;omega
  by_cases hroom:len+n≤cap
  ·have hfit:xs.length+news.length≤cs.length:=by
    rw[hnl,←hlen,←Nat.add_mul];exact Nat.le_trans (Nat.mul_le_mul_right _ hroom) hcc
   have hrun:=run_append_room_src (P:=P) (w:=w) t tx ty e i hu hi b 0 len cap x n news hS hroom
    (fun j hj=>by rw[cell?_heap,aR,hlen,bE hb,aS (by omega)];rfl) (fun j hj=>by rw[frozen?_heap];exact gR hb)
   obtain⟨s1,s2⟩:=mY b news (0+len*i.size) w;refine⟨_,_,ok _ _ hrun,s2,?_⟩;rw[s1,aR,hlen];obtain⟨cs',c1,c2,c3⟩:=qV (news:=news) hb htk hxc hfit;obtain⟨g1,g2,g3⟩:=lF (l':=news) (o:=xs.length) hb hfit;exact H _ _ (.inr ⟨b,len+n,cap,cs',rfl,c1,hroom,by simp[Nat.add_mul,hlen,hnl],by omega,c3⟩) (.inl ⟨rfl,g2,g3⟩)
  ·refine grow (some ⟨b,0,none⟩) len cap rfl hlc hlen (by omega) (fun w' hw'=> ?_);show(loadCells ⟨b,0,none⟩ (len*i.size)).run P w'=_;rw[hlen]
   exact run_loadCells_list (w:=w') ⟨b,0,none⟩ xs (fun j u hj=>by
    have hjl:j<xs.length:=(List.getElem?_eq_some_iff.1 hj).1
    rw[eL,cell?_heap,aR,hw',Row.cell (n:=len) (cap:=cap) hb htk hjl,hj])
theorem fill_ones:∀(vals pre rest:List Value),one' vals=true→vals.length=rest.length→
 Instr.fill (fun i=>some (i*1,1)) (pre++rest).toArray ((vals.zipIdx pre.length).map fun p=>(p.2,p.1))=some (pre++vals).toArray:=by
 intro vals
 induction vals with
 |nil=>intro pre rest _ hl;simp at hl;simp[Instr.fill,List.eq_nil_of_length_eq_zero hl.symm]
 |cons v vals ih=>
  intro pre rest h1 hl
  cases rest with
  |nil=>simp at hl
  |cons r rest=>
   simp only[one',Bool.and_eq_true]at h1;have hc:v.cells=#[v]:=by cases v<;>first|rfl|exact absurd h1.1 (by simp[Value.oneCell'])
   have:=ih (pre++[v]) rest h1.2 (by simpa using hl);simp only[aC,aB,aD,aR]at this;simp only[List.zipIdx_cons,aJ,Instr.fill,hc];rw[if_neg (by simp)]
   have e:((#[v]:Array Value).zipIdx.foldl (fun(cs:Array Value) (x:Value×Nat)=>cs.setIfInBounds (pre.length*1+x.2) x.1) (pre++r::rest).toArray)=((pre++[v])++rest).toArray:=by
    simp
   rw[e,this];simp
theorem dQ {t e n:Nat} {vals:List Value} {ps:List (Nat×Operand)} {tk:Tok (dst,ρ,k,E)} (hu:P.underlying t=some (.slice e)) (he:einf P e 1=true)
 (hps:ps=vals.zipIdx.map fun p=>(p.2,Operand.const p.1)) (h1:one' vals=true) (hn:vals.length=n) (hpos:0<n) (hsmall:n≤1000)
 (H:∀v' h',Row h' v' e 1 vals→blks v'=[h.size]→Ext [] h h'→h'.size=h.size+1→k (ρ.put dst v') h'):
 eD P (.buildSlice t n ps.toArray) ty dst ρ h k E tk:=by
 refine eR fun w hw=> ?_;subst hw;obtain⟨i,z,hi,hz,hsize,hzs,hbytes,_⟩:=mQ he
 have hrun:=run_buildSlice (P:=P) w t e n (vals.zipIdx.map fun p=>(p.2,p.1)).toArray vals.toArray i z hu hi hz (by rw[hsize];omega) (by rw[hsize];omega)
  (by
   rw[hsize];generalize hA:(Array.range (n*1)).map _=A;have hAs:A.size=n:=by rw[←hA];simp
   obtain⟨la,rfl⟩:∃la:List Value,A=la.toArray:=⟨A.toList,by simp⟩;have hfill:=fill_ones vals [] la h1 (by simpa[hn]using hAs.symm);simp only[List.nil_append,aD]at hfill
   exact hfill)
 refine⟨_,w.alloc (.cells vals.toArray e),?_,⟨rfl,rfl,rfl⟩,H (.slice (some ⟨w.heap.size,0,none⟩) n n) (w.heap.push (.cells vals.toArray e)) (.inr ⟨w.heap.size,n,n,vals,rfl,Blk.new,bA _,by simp[hn],by simp[hn],by simp⟩) rfl (Ext.push _ _ _) (by simp)⟩
 have hm:ps.toArray.map (fun p=>(p.1,ev ρ p.2))=(vals.zipIdx.map fun p=>(p.2,p.1)).toArray:=by
  subst hps;simp[List.map_map,Function.comp_def,dZ]
 show((do pure (Next.value (←Instr.buildSlice t n (ps.toArray.map fun p=>(p.1,ev ρ p.2))))):Sem Next).run P w=_;rw[hm];exact fZ hrun
theorem Wbs_agg {t e m:Nat} {vals:List Value} {tk:Tok (dst,ρ,k,E)} (hu:P.underlying t=some (.slice e)) (he:einf P e m=true) (hl:vals.length=m) (hsmall:m≤1000)
 (H:∀v' h',Row h' v' e m vals→blks v'=[h.size]→Ext [] h h'→h'.size=h.size+1→k (ρ.put dst v') h'):
 eD P (.buildSlice t 1 #[(0,.const (.agg vals.toArray))]) ty dst ρ h k E tk:=by
 refine eR fun w hw=> ?_;subst hw;obtain⟨i,z,hi,hz,hsize,hzs,hbytes,hpos⟩:=mQ he
 have hfill:Instr.fill (fun j=>some (j*i.size,i.size)) ((Array.range (1*i.size)).map (z.cells[· %z.cells.size]!)) [(0,.agg vals.toArray)]=some vals.toArray:=by
  simp only[Instr.fill,Value.cells,aQ,aR];generalize hA:(Array.range (1*i.size)).map _=A;have hAs:A.size=m:=by rw[←hA];simp;exact hsize
  obtain⟨la,rfl⟩:∃la:List Value,A=la.toArray:=⟨A.toList,by simp⟩;rw[if_neg (by simp at hAs;simp;omega)]
  have key:∀(l pre rest:List Value),l.length=rest.length→(l.zipIdx pre.length).foldl (fun(cs:Array Value) (x:Value×Nat)=>cs.setIfInBounds x.2 x.1) (pre++rest).toArray=(pre++l).toArray:=by
   intro l
   induction l with
   |nil=>intro pre rest hl;simp at hl;simp[List.eq_nil_of_length_eq_zero hl.symm]
   |cons v l ih=>
    intro pre rest hl
    cases rest with
    |nil=>simp at hl
    |cons r rest=>
     have:=ih (pre++[v]) rest (by simpa using hl);simp only[aC,aB,aD,aR]at this;simp only[List.zipIdx_cons,List.foldl_cons];rw[show(pre++r::rest).toArray.setIfInBounds pre.length v=((pre++[v])++rest).toArray by simp,this];simp
  have h2:=key vals [] la (by simp at hAs;omega);simp only[List.nil_append,aD]at h2;simpa using h2
 have hrun:=run_buildSlice (P:=P) w t e 1 #[(0,.agg vals.toArray)] vals.toArray i z hu hi hz (by rw[hsize];omega) (by rw[hsize];omega) hfill;refine⟨_,w.alloc (.cells vals.toArray e),?_,⟨rfl,rfl,rfl⟩,H (.slice (some ⟨w.heap.size,0,none⟩) 1 1) (w.heap.push (.cells vals.toArray e)) (.inr ⟨w.heap.size,1,1,vals,rfl,Blk.new,bA _,by simp[hl],by simp[hl],by simp⟩) rfl (Ext.push _ _ _) (by simp)⟩;show((do pure (Next.value (←Instr.buildSlice t 1 ((#[(0,Operand.const (.agg vals.toArray))]:Array (Nat×Operand)).map fun p=>(p.1,ev ρ p.2))))):Sem Next).run P w=_;simp only[aH,aJ,aK,dZ];exact fZ hrun
theorem Wmake {t e:Nat} {z:Value} {kl kc:IntKind} {n:Nat} {tk:Tok (dst,ρ,k,E)} (hu:P.underlying t=some (.slice e)) (he:einf P e 1=true) (hz:(P.info? e).bind (·.zero)=some z) (hzc:z.cells=#[z]) (hn:n≤1073741824)
 (H:∀h',Blk h' h.size (List.replicate n z) e→Ext [] h h'→h'.size=h.size+1→k (ρ.put dst (.slice (some ⟨h.size,0,none⟩) n n)) h'):
 eD P (.makeSlice t (.const (.int kl (n:Int))) (.const (.int kc (n:Int)))) ty dst ρ h k E tk:=by
 refine eR fun w hw=> ?_;subst hw;obtain⟨i,z',hi,hz',hsize,hzs,hbytes,_⟩:=mQ he;have hzz:z'=z:=by simpa[hi,hz']using hz
 subst hzz
 have hb:i.bytes*n≤281474976710656:=by
  have:i.bytes*n≤128*1073741824:=Nat.mul_le_mul hbytes hn;omega
 have hrun:=run_make_row (P:=P) t e i z' hu hi hz' hsize hzc kl kc n hb (by omega) w
 have hmc:madeCells #[z'] n=(List.replicate n z').toArray:=by
  apply Array.ext';simp only[madeCells,Array.toList_map,Array.toList_range];apply List.ext_getElem?;intro j;simp[List.getElem?_replicate,List.getElem?_range];split<;>simp_all [Nat.mod_one]
 refine⟨.slice (some ⟨w.heap.size,0,none⟩) n n,w.alloc (.cells (madeCells #[z'] n) e),?_,⟨rfl,rfl,rfl⟩,?_⟩
 ·exact fZ hrun
 ·rw[hmc];exact H _ Blk.new (Ext.push _ _ _) (by simp)
end
end
section
theorem xA(s:ByteArray):∀(n i:Nat) (r:List UInt8),s.size-i=n→ByteArray.toList.loop s i r=r.reverse++s.data.toList.drop i:=by
 have hs:s.size=s.data.toList.length:=by rw[Array.length_toList];rfl
 intro n
 induction n with
 |zero=>
  intro i r h
  rw[ByteArray.toList.loop,if_neg (by omega),List.drop_eq_nil_of_le (by omega)];simp
 |succ n ih=>
  intro i r h;rw[ByteArray.toList.loop,if_pos (by omega),ih (i+1) _ (by omega)];have hi:i<s.data.toList.length:=by omega
  rw[List.drop_eq_getElem_cons hi]
  have:s.get! i=s.data.toList[i]:=by
   have hi':i<s.data.size:=by rw[←Array.length_toList];exact hi
   show s.data[i]! =_;rw[getElem!_pos s.data i hi'];simp
  simp[this]
theorem oZ(s:ByteArray):s.toList=s.data.toList:=by
 have:=xA s s.size 0 [] (by omega);simpa[ByteArray.toList]using this
section
variable{P:Program}{a b:List UInt8}
theorem sE:binv .eql (.string ⟨a.toArray⟩) (.string ⟨b.toArray⟩)=some (.bool (a==b)):=by simp[binv,oZ]
theorem binv_sneqL:binv .neq (.string ⟨a.toArray⟩) (.string ⟨b.toArray⟩)=some (.bool !(a==b)):=by simp[binv,oZ]
theorem empty_mk:ByteArray.empty=⟨([]:List UInt8).toArray⟩:=rfl
theorem eU:(⟨a.toArray⟩:ByteArray).size=a.length:=by simp[ByteArray.size]
theorem sP{t:Nat}{k:IntKind}{i:Int}(ht:P.underlying t=some .string):
 jB P t (.string ⟨a.toArray⟩) (.int k i)=if 0≤i then(a[i.toNat]?).map fun c=> .int .u8 c.toNat else none:=by
 rw[vT ht]
 congr 1
 congr 1
 by_cases h:i.toNat<a.length
 ·have h':i.toNat<(⟨a.toArray⟩:ByteArray).size:=by rw[eU];exact h
  rw[getElem?_pos (⟨a.toArray⟩:ByteArray) i.toNat h',getElem?_pos a i.toNat h];rfl
 ·have h':¬i.toNat<(⟨a.toArray⟩:ByteArray).size:=by rw[eU];exact h
  rw[getElem?_neg (⟨a.toArray⟩:ByteArray) i.toNat h',getElem?_neg a i.toNat h]
end
section
variable{P:Program}{h:Heap}{b o:Nat}{a:List UInt8}
theorem r_faddr{s f:Nat}:rV P s (.pointer (some ⟨b,o,none⟩)) f=(fofs P s f).map fun n=> .pointer (some ⟨b,o+n,none⟩):=rfl
def ldz(z:Option (Bool×Nat))(h:Heap)(b o:Nat):Option Value:=match z with
 |some (false,_)=>bG h b o
 |some (true,n)=>(dH h b o n).map fun l=> .agg l.toArray
 |none=>none
theorem rE{t:Nat}:ldv P t (.pointer (some ⟨b,o,none⟩)) h=ldz (szOf P t) h b o:=rfl
theorem nE{n:Nat}:ldz (some (false,n)) h b o=bG h b o:=rfl
theorem r_ldzn{n:Nat}:ldz (some (true,n)) h b o=(dH h b o n).map fun l=> .agg l.toArray:=rfl
def lenU(d:Option TypeDesc)(x:Value):Option Value:=match d,x with
 |some .string,.string s=>some (.int .i64 s.size)
 |some (.slice _),.slice _ n _=>some (.int .i64 n)
 |some (.array n _),_=>some (.int .i64 n)
 |_,_=>none
theorem r_lenv{t:Nat}{x:Value}:lenv P #[t] #[x]=lenU (P.underlying t) x:=rfl
theorem r_lenS:lenU (some .string) (.string ⟨a.toArray⟩)=some (.int .i64 (a.length:Int)):=by simp[lenU,eU]
theorem r_lenL{e n c:Nat}{ad:Option Addr}:lenU (some (.slice e)) (.slice ad n c)=some (.int .i64 n):=rfl
def iaS(z:Option (Bool×Nat))(b o len:Nat)(i:Int):Option Value:=match z with
 |some (_,size)=>if 0≤i∧i<len then some (.pointer (some ⟨b,o+i.toNat*size,none⟩))else none
 |none=>none
def iaU(P:Program)(d:Option TypeDesc)(x:Value)(i:Int):Option Value:=match d,x with
 |some (.slice e),.slice (some ⟨b,o,none⟩) len _=>iaS (szOf P e) b o len i
 |some (.array n e),.pointer (some ⟨b,o,none⟩)=>iaS (szOf P e) b o n i
 |_,_=>none
theorem r_iaddr{t:Nat}{x:Value}{k:IntKind}{i:Int}:oQ P t x (.int k i)=iaU P (P.underlying t) x i:=by
 unfold oQ iaU;rfl
theorem r_iaL{e len cap:Nat}{i:Int}:iaU P (some (.slice e)) (.slice (some ⟨b,o,none⟩) len cap) i=iaS (szOf P e) b o len i:=rfl
theorem r_iaA{e n:Nat}{i:Int}:iaU P (some (.array n e)) (.pointer (some ⟨b,o,none⟩)) i=iaS (szOf P e) b o n i:=rfl
theorem r_iaS{ag:Bool}{size len:Nat}{i:Int}(hi:0≤i∧i<len):iaS (some (ag,size)) b o len i=some (.pointer (some ⟨b,o+i.toNat*size,none⟩)):=by simp[iaS,hi]
def idxS(a:List UInt8)(i:Int):Option Value:=if 0≤i then(a[i.toNat]?).map fun c=> .int .u8 c.toNat else none
theorem r_idxS{t:Nat}{k:IntKind}{i:Int}(ht:P.underlying t=some .string):jB P t (.string ⟨a.toArray⟩) (.int k i)=idxS a i:=sP ht
theorem r_idx{i:Int}(h0:0≤i)(h1:i.toNat<a.length):idxS a i=some (.int .u8 (a[i.toNat]).toNat):=by simp[idxS,h0,h1]
def cvU(d:Option TypeDesc)(x:Value):Option Value:=match d,x with
 |some (.int k),.int _ n=>some (.int k (k.wrap n))
 |some (.float k),.int _ n=>some (.float k (k.nearest n))
 |some .string,.int _ n=>some (.string (Utf8.encode n))
 |some .string,.string b=>some (.string b)
 |some (.int k),.float s b=>match(s.decode b).toInt .zero with|some n=>if k.min≤n∧n≤k.max then some (.int k n)else none|none=>none
 |_,_=>none
theorem r_conv{s t:Nat}{x:Value}(hs:(P.underlying s).isSome=true):tU P s t x=cvU (P.underlying t) x:=by
 unfold tU cvU
 cases hx:P.underlying s with
 |none=>simp[hx]at hs
 |some d'=>
  cases hx2:P.underlying t with
  |none=>rfl
  |some d=>cases d<;>cases x<;>rfl
theorem r_cvI{k k':IntKind}{n:Int}:cvU (some (.int k)) (.int k' n)=some (.int k (k.wrap n)):=rfl
theorem r_cvF{k:FloatKind}{k':IntKind}{n:Int}:cvU (some (.float k)) (.int k' n)=some (.float k (k.nearest n)):=rfl
theorem r_cvS{k':IntKind}{n:Int}:cvU (some .string) (.int k' n)=some (.string (Utf8.encode n)):=rfl
theorem r_cvSS{s:ByteArray}:cvU (some .string) (.string s)=some (.string s):=rfl
theorem r_some{α:Type}{x:α}:(some x).isSome=true:=rfl
def mkU(d:Option TypeDesc)(t:Nat)(x:Value):Option Value:=match d with
 |some (.interface _)|none=>none
 |some _=>some (.iface t x)
theorem r_mki{t:Nat}{x:Value}:mkiv P t x=mkU (P.underlying t) t x:=rfl
theorem r_mkS{fs:Array Field}{t:Nat}{x:Value}:mkU (some (.struct fs)) t x=some (.iface t x):=rfl
theorem r_mkp{e:Nat}{t:Nat}{x:Value}:mkU (some (.pointer e)) t x=some (.iface t x):=rfl
theorem r_mkstr{t:Nat}{x:Value}:mkU (some .string) t x=some (.iface t x):=rfl
theorem r_slS{t:Nat}{lo hi:Option Value}(ht:P.underlying t=some .string):iM P t (.string ⟨a.toArray⟩) lo hi=(match hi with|none=>some a.length|some v=>gG v a.length).bind fun m=>
 (match lo with|none=>some 0|some v=>gG v m).map fun l=> .string ⟨((a.take m).drop l).toArray⟩:=by
 have ex:∀l m,(⟨a.toArray⟩:ByteArray).extract l m=⟨((a.take m).drop l).toArray⟩:=by
  intro l m;apply ByteArray.ext;rw[ByteArray.data_extract];simp[List.drop_take]
 unfold iM;simp only[ht,eU,ex];cases hi<;>cases lo<;>simp[Option.map_map,Function.comp_def]
theorem r_sb{k:IntKind}{i:Int}{y:Nat}(h:0≤i∧i≤y):gG (.int k i) y=some i.toNat:=by simp[gG,h]
def chk(z:Option (Bool×Nat))(l l':List Value):Bool:=match z with
 |some (true,n)=>jA l n&&jA l' n&&one' l'
 |_=>false
theorem r_chk{n:Nat}{l l':List Value}:chk (some (true,n)) l l'=(jA l n&&jA l' n&&one' l'):=rfl
theorem r_stN{k:Env→Heap→Prop}{ρ:Env}{dst:Option Nat}{ty:TypeId}{l l':List Value}{t:TypeId}{tk:Tok (dst,ρ,k)}(hs:chk (szOf P ty) l l'=true):
 WstT P ty (.pointer (some ⟨h.size,0,none⟩)) (.agg l'.toArray) dst ρ (h.push (.cells l.toArray t)) k tk=k (ρ.put dst undef) (h.push (.cells l'.toArray t)):=by
 unfold chk at hs;split at hs
 ·rename_i n hz;simp only[Bool.and_eq_true]at hs;exact Wst_newAll hz hs.1.1 hs.1.2 hs.2
 ·cases hs
theorem r_st1{k:Env→Heap→Prop}{ρ:Env}{dst:Option Nat}{ty:TypeId}{v:Value}{l:List Value}{t:TypeId}{tk:Tok (dst,ρ,k)}(hs:szOf P ty=some (false,1))(ho:inB o l=true)(h1:v.oneCell'=true):
 WstT P ty (.pointer (some ⟨h.size,o,none⟩)) v dst ρ (h.push (.cells l.toArray t)) k tk=k (ρ.put dst undef) (h.push (.cells (l.set o v).toArray t)):=Wst_new1 hs ho h1 rfl
end
def finf(P:Program)(t f:Nat):Option (Nat×Nat):=match P.underlying t with
 |some (.struct fs)=>(fs[f]?).map fun g=>(g.type,g.offset)
 |_=>none
def fldU(P:Program)(o:Option (Nat×Nat))(l:List Value):Option Value:=match o with
 |some (ty,off)=>tH P ty l.toArray off
 |none=>none
def fldz(z:Option (Bool×Nat))(l:List Value)(off:Nat):Option Value:=match z with
 |some (true,n)=>some (.agg ((l.drop off).take n).toArray)
 |some (false,_)=>l[off]?
 |none=>none
theorem r_field{P:Program}{t f:Nat}{l:List Value}:oR P t (.agg l.toArray) f=fldU P (finf P t f) l:=by
 unfold oR fldU finf
 cases P.underlying t with
 |none=>rfl
 |some d=>
  cases d<;>try rfl
  dsimp only;split<;>simp_all
theorem r_fldU{P:Program}{ty off:Nat}{l:List Value}:fldU P (some (ty,off)) l=fldz (szOf P ty) l off:=by
 unfold fldU tH fldz;dsimp only
 cases szOf P ty with
 |none=>rfl
 |some p=>
  obtain⟨b,n⟩:=p;cases b
  ·simp
  ·simp[List.drop_take]
theorem r_fldz1{n off:Nat}{l:List Value}:fldz (some (false,n)) l off=l[off]?:=rfl
theorem r_fldzn{n off:Nat}{l:List Value}:fldz (some (true,n)) l off=some (.agg ((l.drop off).take n).toArray):=rfl
def bpl(P:Program)(t:Nat):Option (List Value×List (Nat×Nat)):=match P.info? t,P.underlying t with
 |some it,some (.struct fields)=>
  match it.zero,fields.toList.mapM (fun f=>(P.info? f.type).map fun i=>(f.offset,i.size))with
  |some z,some places=>some (z.cells.toList,places)
  |_,_=>none
 |_,_=>none
def lO(pl:List (Nat×Nat))(ps:List (Nat×Value))(z:List Value):Option (List Value):=(Instr.fill (pl.toArray[·]?) z.toArray ps).map (·.toList)
def pI(o:Option (Nat×Nat))(pl:List (Nat×Nat))(ps:List (Nat×Value))(z:List Value)(v:Value):Option (List Value):=
 match o with
 |none=>none
 |some (off,size)=>if v.cells.size≠size||off+v.cells.size>z.toArray.size then none else
  (Instr.fill (pl.toArray[·]?) (v.cells.zipIdx.foldl (fun cs (c,j)=>cs.setIfInBounds (off+j) c) z.toArray) ps).map (·.toList)
theorem rF{pl:List (Nat×Nat)}{z:List Value}:lO pl [] z=some z:=by simp[lO,Instr.fill]
theorem lG{pl:List (Nat×Nat)}{f:Nat}{v:Value}{ps:List (Nat×Value)}{z:List Value}:lO pl ((f,v)::ps) z=pI pl[f]? pl ps z v:=by
 unfold lO pI;rw[Instr.fill];simp only[List.getElem?_toArray]
 cases pl[f]? with
 |none=>rfl
 |some p=>
  obtain⟨off,size⟩:=p;dsimp only;split<;>rfl
theorem r_fillS{pl:List (Nat×Nat)}{o:Nat}{v:Value}{ps:List (Nat×Value)}{z:List Value}(h1:v.oneCell'=true)(ho:inB o z=true):pI (some (o,1)) pl ps z v=lO pl ps (z.set o v):=by
 have hv:v.cells=#[v]:=by cases v<;>first|rfl|exact absurd h1 (by simp[Value.oneCell'])
 have ho:=inB_iff.1 ho;unfold lO pI;simp only[hv];rw[if_neg (by simp;omega)];simp
def bldU(o:Option (List Value×List (Nat×Nat)))(P:Program)(t:Nat)(ps:List (Nat×Value)):Option Value:=match o with
 |some (z,pl)=>(lO pl ps z).map fun l=> .agg l.toArray
 |none=>lS P t ps.toArray
theorem r_bld{P:Program}{t:Nat}{ps:List (Nat×Value)}:lS P t ps.toArray=bldU (bpl P t) P t ps:=by
 unfold bldU;split
 ·rename_i z pl hb;unfold bpl at hb;split at hb
  ·rename_i it fields hi hu;split at hb
   ·rename_i z' places hz hm;simp only[Option.some.injEq,Prod.mk.injEq]at hb;obtain⟨rfl,rfl⟩:=hb;simp only[lS,Program.built,hi,hu,hz,hm,lO];simp[Option.map_map,Function.comp_def]
   ·cases hb
  ·cases hb
 ·rfl
theorem r_bldU{P:Program}{t:Nat}{ps:List (Nat×Value)}{z:List Value}{pl:List (Nat×Nat)}:bldU (some (z,pl)) P t ps=(lO pl ps z).map fun l=> .agg l.toArray:=rfl
theorem tfi:finf aE 73 0=some (3,0)∧finf aE 73 4=some (3,4)∧finf aE 73 6=some (4,6):=by and_intros<;>kernel_rfl
theorem tbp:bpl aE 78=some ([.int .i64 0],[(0,1)])∧bpl aE 95=some ([.int .i64 0],[(0,1)])∧bpl aE 35=some ([.int .i64 0,.string .empty,.string .empty,.float .f64 0,.slice none 0 0,.int .i64 0],[(0,1),(1,1),(2,1),(3,1),(4,1),(5,1)])∧
 bpl aE 73=some ([.int .i64 0,.string .empty,.string .empty,.float .f64 0,.int .i64 0,.int .i64 0,.bool false],[(0,1),(1,1),(2,1),(3,1),(4,1),(5,1),(6,1)])∧
 bpl aE 126=some ([.int .i64 0,.int .i64 0],[(0,1),(1,1)])∧
 bpl aE 61=some ([.slice none 0 0,.int .i64 0,.slice none 0 0,.slice none 0 0,.slice none 0 0,.map none],[(0,1),(1,1),(2,1),(3,1),(4,1),(5,1)]):=
 by and_intros<;>kernel_rfl
theorem tei:einf aE 3 1=true∧einf aE 4 1=true∧einf aE 5 1=true∧einf aE 9 1=true∧einf aE 35 6=true∧einf aE 73 7=true∧einf aE 85 1=true∧einf aE 126 2=true∧einf aE 138 1=true:=
 by and_intros<;>kernel_rfl
def zp:=aL (aL @W_label (aL @W_goto (aL @Kseq_g (aL @Kblk_g (aL @Kscope_n (aL @Kscope_x @Kscope_r)))))) (aL @Wl_nil (aL @Wl_guard (aL @Wl_move (aL @Wl_assign (aL @Wl_pick (aL @zA (aL @wR (aL @Wl_load (aL @Wl_binOp (aL @Wl_unOp (aL @Wl_convert (aL @Wl_slice (aL @Wl_field (aL @wQ (aL @Wl_index (aL @Wl_extract (aL @Wl_build (aL @Wl_mki (aL @Wl_mkf (aL @Wl_len (aL @Wl_min (aL @Wl_max (aL @Wl_alloc (aL @Wl_box (aL @Wl_store (aL @Wl_call (aL @Wl_append2 (aL @Wl_copy (aL @tA (aL @wP (aL @Wl_panic (aL @Wl_range (aL @Wl_next (aL @Wl_makeMap (aL @Wl_insert (aL @wO (aL @Wl_lookup (aL @sZ (aL @pO (aL @nJ (aL @W_skip (aL @W_region (aL @W_draw (aL @W_seq (aL @W_cond (aL @W_block (aL @W_exit (aL @W_ret (aL @Kseq_n (aL @Kseq_x (aL @Kseq_r (aL @Kblk_n (aL @Kblk_r (aL @Kblk_x (aL @Kend_n (aL @Kend_r (aL @Rcall_ret (aL @zF (aL @zB (aL @uB (aL @Wg_tt (aL @Wg_tf (aL @Wg_ft (aL @Wg_ff (aL @tW (aL @set_app (aL @xQ (aL @xR (aL @ev_tmp (aL @dZ (aL @ev_func (@tQ))))))))))))))))))))))))))))))))))))))))))))))))))))))))))))))))))))))))
theorem g_and:(True∧True)=True:=by simp
theorem it1{α:Type}{h:Decidable True}{x y:α}: @ite α True h x y=x:=by simp
theorem it2{α:Type}{h:Decidable False}{x y:α}: @ite α False h x y=y:=by simp
theorem it3{h:Decidable True}{x y:Prop}: @ite Prop True h x y=x:=by simp
theorem it4{h:Decidable False}{x y:Prop}: @ite Prop False h x y=y:=by simp
theorem it5:(false=true)=False:=by simp
theorem it6:(true=false)=False:=by simp
def zw:=aL (aL @decide_true (aL @decide_false (aL @Bool.not_true (aL @Bool.not_false (aL (aL @it1 @it2) (aL (aL @it3 @it4) (aL it5 it6)))))))<|aL (aL @r_binI (aL @r_binF (aL @r_binS (aL @r_binBe (aL @r_binBn (aL @r_binNe (aL @vB (aL @isC_const (aL @isC_tmp @isC_glob)))))))))<|aL (aL @unv_xor (aL @unv_negF (aL @binv_and (aL @binv_or @binv_xor)))) (aL @r_mkS (aL @r_mkp (aL @r_mkstr (aL Tryz.underlying78 (aL Tryz.underlying95 (aL @r_field (aL @r_fldU (aL @r_fldz1 (aL @r_fldzn (aL @r_bld (aL @r_bldU (aL @rF (aL @lG (aL @r_fillS (aL tfi (aL tbp (aL @Wv_some (aL @g_and (aL @r_slS (aL @r_sb (aL @r_conv (aL @tX (aL @Wfn_func (aL @zB (aL @uB (aL @Wg_tt (aL @Wg_tf (aL @Wg_ft (aL @Wg_ff (aL @Wg_u (aL @tW (aL @oneOf1 (aL @oneOf2 (aL @resl_nil (aL @resl_tmp (aL @resl_cell (aL @ev_tmp (aL @dZ (aL @ev_func (aL @tQ (aL @set_app (aL @xQ (aL @xR (aL @of_zero (aL @of_succ (aL @of_nil (aL @gslot_zero (aL @gslot_succ (aL @gval_some (aL @nilv_ptr (aL @nilv_iface (aL @nilv_func (aL @pickv_bool (aL @pick_bool (aL @pick_true (aL @pick_false (aL @unv_not (aL @unv_neg (aL @binv_add (aL @binv_sub (aL @binv_mul (aL @lT (aL @sF (aL @binv_eql (aL @binv_neq (aL @binv_lss (aL @binv_leq (aL @binv_gtr (aL @binv_geq (aL @sE (aL @binv_sneqL (aL @nF (aL @rL (aL @maxv_int (aL @empty_mk (aL @r_faddr (aL @rE (aL @nE (aL @r_ldzn (aL @r_lenv (aL @r_lenS (aL @r_lenL (aL @r_iaddr (aL @r_iaL (aL @r_iaA (aL @r_iaS (aL @r_idxS (aL @r_idx (aL @r_cvI (aL @r_cvF (aL @r_cvS (aL @r_cvSS (aL @r_some (aL @r_mki (aL @r_chk (aL @r_stN (aL @r_st1 (aL @lt_push (aL @uQ (aL @pK (aL @sR (aL @vS (aL @gJ (aL @oB (aL @lenIs_nil (aL @lenIs_cons (aL @inB_zero (aL @inB_succ (aL @oM (aL @oN (aL @yD (aL @one'_nil (aL @one'_cons (aL @oc_int (aL @oc_bool (aL @oc_string (aL @oc_float (aL @oc_ptr (aL @oc_slice (aL @oc_map (aL @oc_func (aL @oc_iface (aL @oc_niface (aL @oc_nfunc (aL @tt_and (aL @cells_agg (aL @cells_int (aL @cells_bool (aL @wG (aL @yR (aL @vU (aL @vV (aL @sQ (aL @g_map_cons (aL @g_map_nil (aL @g_omap (aL @g_omapn (aL @g_obind (aL @fI (aL @fP (aL @aR (aL @Nat.add_zero (aL tsz (aL tfo (aL ten (aL tun (aL tzc (aL tre (tei)))))))))))))))))))))))))))))))))))))))))))))))))))))))))))))))))))))))))))))))))))))))))))))))))))))))))))))))))))))))))))))))))))))))))))))))))))))
end
section
abbrev SList:=List (List UInt8×Value)
def kY:SList→List UInt8→Nat→Option (Nat×Value)
 |[],_,_=>none
 |(y,w)::l,x,i=>if x==y then some (i,w)else kY l x (i+1)
def mget:SList→List UInt8→Option Value
 |[],_=>none
 |(y,w)::l,x=>if x==y then some w else mget l x
def mput:SList→List UInt8→Value→SList
 |[],x,v=>[(x,v)]
 |(y,w)::l,x,v=>if x==y then(x,v)::l else(y,w)::mput l x v
def SMap(h:Heap)(m:Nat)(l:SList):Prop:=∃es clock,h[m]? =some (.map es clock)∧es.toList.map (fun e=>(e.key,e.val))=l.map fun p=>(Value.string ⟨p.1.toArray⟩,p.2)
theorem SMap.ext{X:List Nat}{h h':Heap}{m:Nat}{l:SList}(hs:SMap h m l)(hE:Ext X h h')(hx:m∉X):SMap h' m l:=by
 obtain⟨es,clock,hg,hf⟩:=hs;exact⟨es,clock,(hE.2 m (jY hg) hx).trans hg,hf⟩
theorem SMap.lt{h:Heap}{m:Nat}{l:SList}(hs:SMap h m l):m<h.size:=by
 obtain⟨es,clock,hg,hf⟩:=hs;exact jY hg
theorem bytes_eq{x y:List UInt8}:((⟨x.toArray⟩:ByteArray)==⟨y.toArray⟩)=(x==y):=by
 rw[aW,MapKept.bytes_beq,beq_iff_eq];constructor
 ·intro h;simpa using h
 ·rintro rfl;rfl
theorem kS{x:List UInt8}:∀(es:List MapEntry) (l:SList) (i:Nat),es.map (fun e=>(e.key,e.val))=l.map (fun p=>(Value.string ⟨p.1.toArray⟩,p.2))→
 Instr.findNow .string (.string ⟨x.toArray⟩) es i=some (kY l x i):=by
 intro es
 induction es with
 |nil=>intro l i h;cases l with
  |nil=>rfl
  |cons p l=>simp at h
 |cons e es ih=>
  intro l i h
  cases l with
  |nil=>simp at h
  |cons p l=>
   obtain⟨y,w⟩:=p;simp only[aJ,List.cons.injEq,Prod.mk.injEq]at h;obtain⟨⟨h1,h2⟩,h3⟩:=h;unfold Instr.findNow kY;rw[h1,h2];show(match some ((⟨x.toArray⟩:ByteArray)==⟨y.toArray⟩)with|some true=>some (some (i,w))|some false=>Instr.findNow .string (.string ⟨x.toArray⟩) es (i+1)|none=>none)=_;rw[bytes_eq];cases x==y
   ·simpa using ih l (i+1) h3
   ·rfl
theorem tN{x:List UInt8}:∀(l:SList) (i:Nat),(kY l x i).map (·.2)=mget l x:=by
 intro l
 induction l with
 |nil=>intro i;rfl
 |cons p l ih=>
  intro i;obtain⟨y,w⟩:=p;unfold kY mget;split
  ·rfl
  ·exact ih _
theorem mput_none{x:List UInt8}{v:Value}:∀(l:SList) (i:Nat),kY l x i=none→mput l x v=l++[(x,v)]:=by
 intro l
 induction l with
 |nil=>intro i _;rfl
 |cons p l ih=>
  intro i h;obtain⟨y,w⟩:=p;unfold kY at h;unfold mput;split at h
  ·cases h
  ·rename_i hn;rw[if_neg hn,ih _ h];rfl
theorem mput_some{x:List UInt8}{v w:Value}:∀(l:SList) (i j:Nat),kY l x i=some (j,w)→i≤j∧j-i<l.length∧mput l x v=l.set (j-i) (x,v):=by
 intro l
 induction l with
 |nil=>intro i j h;cases h
 |cons p l ih=>
  intro i j h;obtain⟨y,w'⟩:=p;unfold kY at h;unfold mput;split at h
  ·rename_i hp;cases h;rw[if_pos hp];simp
  ·rename_i hn;obtain⟨h1,h2,h3⟩:=ih _ _ h;rw[if_neg hn,h3];refine⟨by omega,by simp;omega,?_⟩;have:j-i=(j-(i+1))+1:=by omega
   rw[this,List.set_cons_succ]
section
variable{P:Program}{E:List PanicEntry→Heap→Prop}{ρ:Env}{h:Heap}{ty:TypeId}{dst:Option Nat}{k:Env→Heap→Prop}{tk:Tok (dst,ρ,k,E)}{t kt et m:Nat}{l:SList}{x:List UInt8}{z:Value}
theorem wV{w:World}{i:TypeInfo}(hi:P.info? et=some i)(hz:i.zero=some z):(zeroValue et).run P w=.ok z w:=by
 simp[zeroValue,typeInfo,hi,hz,go_sem]
theorem Wlookup (hs:SMap h m l) (hu:P.underlying t=some (.map kt et)) (hk:P.underlying kt=some .string) (hz:(P.info? et).bind (·.zero)=some z)
 (H:k (ρ.put dst ((mget l x).getD z)) h):eD P (.lookup t (.const (.map (some m))) (.const (.string ⟨x.toArray⟩)) false) ty dst ρ h k E tk:=by
 refine eR fun w hw=> ?_;subst hw;obtain⟨es,clock,hg,hf⟩:=hs;simp only[Option.bind_eq_some_iff]at hz;obtain⟨i,hi,hz⟩:=hz;refine⟨_,w,?_,Amb.refl _,H⟩;refine fZ ?_;have hfn:=kS (x:=x) es.toList l 0 hf;have hg2:=tN (x:=x) l 0;have hck:=fun e=>MapKept.run_checkKey (P:=P) (w:=w) (kt:=kt) (k:=.string ⟨x.toArray⟩) hk trivial e 9999;simp only[dZ,Instr.lookup,Sem.run_bind,run_underlying hu,Result.andThen_ok,MapKept.run_getObj_map hg,Sem.run_pure,hck,MapKept.run_findKey hk hfn,←hg2]
 cases kY l x 0 with
 |none=>simp[wV hi hz,go_sem]
 |some p=>simp[go_sem]
theorem tY (hs:SMap h m l) (hu:P.underlying t=some (.map kt et)) (hk:P.underlying kt=some .string) (hz:(P.info? et).bind (·.zero)=some z)
 (H:k (ρ.put dst (.tuple #[(mget l x).getD z,.bool (mget l x).isSome])) h):eD P (.lookup t (.const (.map (some m))) (.const (.string ⟨x.toArray⟩)) true) ty dst ρ h k E tk:=by
 refine eR fun w hw=> ?_;subst hw;obtain⟨es,clock,hg,hf⟩:=hs;simp only[Option.bind_eq_some_iff]at hz;obtain⟨i,hi,hz⟩:=hz;refine⟨_,w,?_,Amb.refl _,H⟩;refine fZ ?_;have hfn:=kS (x:=x) es.toList l 0 hf;have hg2:=tN (x:=x) l 0;have hck:=fun e=>MapKept.run_checkKey (P:=P) (w:=w) (kt:=kt) (k:=.string ⟨x.toArray⟩) hk trivial e 9999;simp only[dZ,Instr.lookup,Sem.run_bind,run_underlying hu,Result.andThen_ok,MapKept.run_getObj_map hg,Sem.run_pure,hck,MapKept.run_findKey hk hfn,←hg2]
 cases kY l x 0 with
 |none=>simp[wV hi hz,go_sem]
 |some p=>simp[go_sem]
theorem sJ(H:∀h',SMap h' h.size []→Ext [] h h'→h'.size=h.size+1→k (ρ.put dst (.map (some h.size))) h')(hu:P.underlying t=some (.map kt et)):
 eD P (.makeMap t none) ty dst ρ h k E tk:=by
 refine eR fun w hw=> ?_;subst hw;refine⟨.map (some w.heap.size),w.alloc (.map #[] 0),?_,⟨rfl,rfl,rfl⟩,H (w.heap.push (.map #[] 0)) ⟨#[],0,by simp,rfl⟩ (Ext.push _ _ _) (by simp)⟩;refine fZ ?_;simp[Instr.makeMap,go_sem]
theorem Wput {v:Value} (hs:SMap h m l) (hu:P.underlying t=some (.map kt et)) (hk:P.underlying kt=some .string)
 (H:∀h',SMap h' m (mput l x v)→Ext [m] h h'→h'.size=h.size→k (ρ.put dst undef) h'):eD P (.mapUpdate t (.const (.map (some m))) (.const (.string ⟨x.toArray⟩)) (.const v)) ty dst ρ h k E tk:=by
 refine Wsem_skip fun w hw=> ?_;subst hw;obtain⟨es,clock,hg,hf⟩:=hs;have hm:=jY hg;have hfn:=kS (x:=x) es.toList l 0 hf;have hck:=fun e=>MapKept.run_checkKey (P:=P) (w:=w) (kt:=kt) (k:=.string ⟨x.toArray⟩) hk trivial e 9999;have hes:es.size=l.length:=by have:=congrArg List.length hf;simpa using this
 have hset:∀es' clock',es'.toList.map (fun e=>(e.key,e.val))=(mput l x v).map (fun p=>(Value.string ⟨p.1.toArray⟩,p.2))→
  k (ρ.put dst undef) ({w with heap:=w.heap.setIfInBounds m (.map es' clock')}:World).heap:=fun es' clock' he=>
  H _ ⟨es',clock',by simp[hm],he⟩ ⟨by simp,fun b hb hx=>by simp at hx;simp[Array.getElem?_setIfInBounds,Ne.symm hx]⟩ (by simp)
 cases hmf:kY l x 0 with
 |none=>
  rw[hmf]at hfn;refine⟨{w with heap:=w.heap.setIfInBounds m (.map (es.push {key:=.string ⟨x.toArray⟩,val:=v,born:=clock}) (clock+1))},yB ?_,⟨rfl,rfl,rfl⟩,hset (es.push {key:=.string ⟨x.toArray⟩,val:=v,born:=clock}) (clock+1) ?_⟩
  ·simp only[dZ,Instr.mapUpdate,Sem.run_bind,run_underlying hu,Result.andThen_ok,MapKept.run_getObj_map hg,hck,MapKept.run_findKey hk hfn,MapKept.run_setObj_map _ hg]
  ·rw[mput_none l 0 hmf];simp[hf]
 |some p=>
  obtain⟨j,w'⟩:=p;rw[hmf]at hfn;obtain⟨h1,h2,h3⟩:=mput_some (v:=v) l 0 j hmf;have hj:j<es.size:=by omega
  refine⟨{w with heap:=w.heap.setIfInBounds m (.map (es.modify j fun e=>{e with key:=.string ⟨x.toArray⟩,val:=v}) clock)},yB ?_,⟨rfl,rfl,rfl⟩,hset (es.modify j fun e=>{e with key:=.string ⟨x.toArray⟩,val:=v}) clock ?_⟩
  ·have hkey:es[j].key=.string ⟨x.toArray⟩:=by
    have hks:∀y∈es.toList,MapKept.IsKey .string y.key:=by
     intro y hy;have:(y.key,y.val)∈es.toList.map (fun e=>(e.key,e.val)):=List.mem_map_of_mem hy;rw[hf]at this;obtain⟨p,_,hp⟩:=List.mem_map.1 this;simp only[Prod.mk.injEq]at hp;rw[←hp.1];trivial
    rcases MapKept.findNow_spec (d:=.string) (k:=.string ⟨x.toArray⟩) trivial es.toList 0 hks with⟨g1,_⟩|⟨j',e,g1,g2,g3⟩
    ·rw[g1]at hfn;cases hfn
    ·rw[g1]at hfn;simp only[Option.some.injEq,Prod.mk.injEq,aR]at hfn;obtain⟨rfl,_⟩:=hfn;have:es[j']=e:=by simpa[hj]using g2
     rw[this];exact g3
   have hst:=MapKept.run_keyThatStays (P:=P) (w:=w) (d:=.string) (k:=.string ⟨x.toArray⟩) trivial;simp only[dZ,Instr.mapUpdate,Sem.run_bind,run_underlying hu,Result.andThen_ok,MapKept.run_getObj_map hg,hck,MapKept.run_findKey hk hfn,Array.getElem?_eq_getElem hj,Option.map_some,Option.getD_some,hkey,hst,MapKept.run_setObj_map _ hg]
  ·rw[h3,List.map_set,←hf,Nat.sub_zero];apply List.ext_getElem?;intro i;simp only[List.getElem?_map,Array.getElem?_toList,Array.getElem?_modify,List.getElem?_set,List.length_map,Array.length_toList];by_cases hi:j=i
   ·subst hi;simp[hj]
   ·simp[hi]
theorem fC {v:Value} (hs:SMap h m l) (hu:P.underlying t=some (.map kt et)) (hk:P.underlying kt=some .string)
 (H:∀h',SMap h' m (mput l x v)→Ext [m] h h'→h'.size=h.size→k (ρ.put dst undef) h'):eD P (.insert t (.const (.map (some m))) (.const (.string ⟨x.toArray⟩)) (.const v)) ty dst ρ h k E tk:=by
 have:=Wput (tk:=tk) (ty:=ty) (E:=E) hs hu hk H;exact this
end
end
section
def Ret(v:Value)(h:Heap):Ending→Heap→Prop:=fun e h'=>e=.returned v∧h'=h
def RetE(v:Value)(h:Heap):Ending→Heap→Prop:=fun e h'=>e=.returned v∧Ext [] h h'
variable{P:Program}{f:Nat}{a:Array Value}{h:Heap}{v:Value}
theorem gV(H:∀w:World,w.heap=h→Calls P f a w fun e w'=>e=.returned v∧w'=w):C P f a h (Ret v h):=
 fun w hw=>(H w hw).mono fun e w' ⟨he,hw'⟩=>by subst hw';exact⟨Amb.refl _,he,hw⟩
theorem C_drew(H:∀w:World,w.heap=h→Calls P f a w fun e w'=>e=.returned v∧∃n,w'=w.drewN n):C P f a h (Ret v h):=
 fun w hw=>(H w hw).mono fun e w' ⟨he,n,hw'⟩=>by subst hw';exact⟨⟨rfl,rfl,rfl⟩,he,hw⟩
theorem C_below(H:∀w:World,w.heap=h→Calls P f a w fun e w'=>e=.returned v∧Go.RowKit.Below w.heap.size w w'):C P f a h (RetE v h):=
 fun w hw=>(H w hw).mono fun e w' ⟨he,hb⟩=>by subst hw;exact⟨⟨hb.os,hb.tape,hb.output⟩,he,⟨hb.size,fun b h1 _=>hb.block b h1⟩⟩
theorem C_grow(H:∀w:World,w.heap=h→Calls P f a w fun e w'=>e=.returned v∧∃k os,w'=Go.Sort.grow (w.drewN k) os):C P f a h (RetE v h):=
 fun w hw=>(H w hw).mono fun e w' ⟨he,k,os,hb⟩=>by
  subst hw hb;refine⟨⟨rfl,rfl,rfl⟩,he,⟨by show w.heap.size≤(w.heap++os).size;simp,fun b h1 _=> ?_⟩⟩;show(w.heap++os)[b]? =w.heap[b]?;rw[Array.getElem?_append_left h1]
theorem yI(s p:List UInt8):C aE 163 #[.string ⟨s.toArray⟩,.string ⟨p.toArray⟩] h (Ret (.bool (Lib.hasPrefix s p)) h):=gV fun w _=>Tryz.strings_HasPrefix _ _ w
theorem jJ(s:List UInt8)(c:Int):C aE 165 #[.string ⟨s.toArray⟩,.int .u8 c] h (Ret (.int .i64 (Lib.indexByte s c.toNat.toUInt8)) h):=gV fun w _=>Tryz.strings_IndexByte _ _ w
theorem sV(s:List UInt8)(c:UInt8):C aE 77 #[.string ⟨s.toArray⟩,.string ⟨[c].toArray⟩] h (Ret (.bool (decide (0≤Lib.indexByte s c))) h):=gV fun w _=>Tryz.strings_Contains_one _ _ w
def MaxLen(h:Heap):Prop:=∃m,bG h 5 0=some (.int .i64 m)
theorem MaxLen.cell{w:World}(hm:MaxLen w.heap):∃m,w.cell? ⟨5,0,none⟩=some (.int .i64 m):=by obtain⟨m,e⟩:=hm;exact⟨m,by rw[cell?_heap];exact e⟩
theorem yP(hm:MaxLen h)(s t:List UInt8)(hs:s.length<4294967281):C aE 77 #[.string ⟨s.toArray⟩,.string ⟨t.toArray⟩] h (Ret (.bool (Lib.contains s t)) h):=
 gV fun w hw=>by obtain⟨m,e⟩:=MaxLen.cell (w:=w) (by rw[hw];exact hm);exact Tryz.strings_Contains ⟨s.toArray⟩ ⟨t.toArray⟩ m w hs e
theorem indexS_c(hm:MaxLen h)(s t:List UInt8)(hs:s.length<4294967281):C aE 108 #[.string ⟨s.toArray⟩,.string ⟨t.toArray⟩] h (Ret (.int .i64 (Lib.index s t)) h):=
 gV fun w hw=>by obtain⟨m,e⟩:=MaxLen.cell (w:=w) (by rw[hw];exact hm);exact Tryz.strings_Index ⟨s.toArray⟩ ⟨t.toArray⟩ m w hs e
theorem cut_c(hm:MaxLen h)(s t:List UInt8)(hs:s.length<4294967281):C aE 170 #[.string ⟨s.toArray⟩,.string ⟨t.toArray⟩] h (Ret (.tuple #[.string ⟨(Lib.cut s t).1.toArray⟩,.string ⟨(Lib.cut s t).2.1.toArray⟩,.bool (Lib.cut s t).2.2]) h):=
 C_drew fun w hw=>by obtain⟨m,e⟩:=MaxLen.cell (w:=w) (by rw[hw];exact hm);exact Tryz.strings_Cut ⟨s.toArray⟩ ⟨t.toArray⟩ m w hs e
theorem zN(s:List UInt8)(c:UInt8)(hc:c.toNat<128):C aE 171 #[.string ⟨s.toArray⟩,.string ⟨[c].toArray⟩] h (Ret (.string ⟨(Lib.trimLeftB s c).toArray⟩) h):=gV fun w _=>Tryz.strings_TrimLeft_one ⟨s.toArray⟩ c hc w
theorem nO(s p:List UInt8):C aE 196 #[.string ⟨s.toArray⟩,.string ⟨p.toArray⟩] h (Ret (.string ⟨(Lib.trimPrefix s p).toArray⟩) h):=gV fun w _=>Tryz.strings_TrimPrefix _ _ w
theorem vM(x y:Nat)(hx:x<18446744073709551616)(hy:y<18446744073709551616):C aE 187 #[.int .u64 x,.int .u64 y] h (Ret (.tuple #[.int .u64 ((x*y/18446744073709551616:Nat):Int),.int .u64 ((x*y%18446744073709551616:Nat):Int)]) h):=
 gV fun w _=>Tryz.bits_Mul64 x y hx hy w
theorem leading_c(x:Int)(h0:0≤x)(h1:x≤18446744073709551615):C aE 189 #[.int .u64 x] h (Ret (.int .i64 (64-(Lib.bitLen x.toNat:Int))) h):=gV fun w _=>Tryz.bits_LeadingZeros64 x w h0 h1
theorem len64_c(x:Int)(h0:0≤x)(h1:x≤18446744073709551615):C aE 206 #[.int .u64 x] h (Ret (.int .i64 (Lib.bitLen x.toNat)) h):=gV fun w _=>Tryz.bits_Len64 x w h0 h1
theorem vN(c:Int):C aE 254 #[.int .u8 c] h (Ret (.int .u8 (Go.bits .or .u8 c 32)) h):=gV fun w _=>Tryz.internal_strconv_lower c w
theorem yG(s:List UInt8)(r:Int)(h0:0≤r)(h1:r<128):C aE 181 #[.string ⟨s.toArray⟩,.int .i32 r] h (Ret (.int .i64 (Lib.indexByte s r.toNat.toUInt8)) h):=gV fun w _=>Tryz.strings_IndexRune_ascii ⟨s.toArray⟩ r w h0 h1
theorem wZ(r:Int):C aE 200 #[.int .i32 r] h (Ret (.bool (Lib.validRune r)) h):=gV fun w _=>Tryz.utf8_ValidRune r w
theorem cutover_c(n:Int)(h0:0≤n)(h1:n<4611686018427387904):C aE 161 #[.int .i64 n] h (Ret (.int .i64 ((n+16)/8)) h):=gV fun w _=>Tryz.bytealg_Cutover n h0 h1 w
end
section
structure Tk where
 kind:Nat
 text:List UInt8
 str:List UInt8
 num:Nat
 fr:Nat
 til:Nat
 line:Bool
deriving DecidableEq,Inhabited
def Tk.txt(t:Tk):List UInt8:=if t.kind=3∨t.kind=2 then t.text else[]
structure Nd where
 kind:Nat
 text:List UInt8
 str:List UInt8
 num:Nat
 kids:List Nat
 pos:Nat
deriving DecidableEq,Inhabited
structure St where
 i:Nat
 ns:List Nd
deriving DecidableEq,Inhabited
inductive Res (α:Type) where
 |ok (a:α) (s:St)
 |err (p:Nat)
 |out
abbrev M (α:Type):=St→Res α
def M.bind{α β:Type}(m:M α)(f:α→M β):M β:=fun s=>match m s with
 | .ok a s'=>f a s'
 | .err p=> .err p
 | .out=> .out
def M.pure{α:Type}(a:α):M α:=fun s=> .ok a s
instance:Monad M where
 pure:=M.pure
 bind:=M.bind
section
variable{α β:Type}{m:M α}{f:α→M β}{s s':St}{a:α}{p:Nat}
theorem eX(h:m s=.ok a s'):(m>>=f) s=f a s':=by show M.bind m f s=_;simp[M.bind,h]
theorem fQ(h:m s=.err p):(m>>=f) s=.err p:=by show M.bind m f s=_;simp[M.bind,h]
theorem eK(h:m s=.out):(m>>=f) s=.out:=by show M.bind m f s=_;simp[M.bind,h]
end
section
variable(T:List Tk)
def nowT(s:St):Tk:=T.getD s.i default
def bU(s:St)(n:Nat):Tk:=T.getD (min (s.i+n) (T.length-1)) default
def isT(s:St)(x:List UInt8):Bool:=(nowT T s).txt==x
def dS:M Unit:=fun s=>if s.i+1<T.length then .ok () {s with i:=s.i+1}else .out
def failT{α:Type}:M α:=fun s=> .err (nowT T s).fr
def tR{α:Type}(p:Nat):M α:=fun _=> .err p
def eY(x:List UInt8):M Bool:=fun s=>if isT T s x then(if s.i+1<T.length then .ok true {s with i:=s.i+1}else .out)else .ok false s
def dA(x:List UInt8):M Nat:=fun s=>if isT T s x then(if s.i+1<T.length then .ok (nowT T s).fr {s with i:=s.i+1}else .out)else .err (nowT T s).fr
def gW:M (List UInt8):=fun s=>if(nowT T s).kind=1 then(if s.i+1<T.length then .ok (nowT T s).text {s with i:=s.i+1}else .out)else .err (nowT T s).fr
def most:Nat:=100000000
def addN(x:Nd):M Nat:=fun s=>if s.ns.length<most∧x.kids.length<most then .ok s.ns.length {s with ns:=s.ns++[x]}else .out
def cP(kind pos:Nat)(kids:List Nat):M Nat:=addN {kind,text:=[],str:=[],num:=0,kids,pos}
def eM(kind:Nat)(text:List UInt8)(pos:Nat)(kids:List Nat):M Nat:=addN {kind,text,str:=[],num:=0,kids,pos}
def ndM(n:Nat):M Nd:=fun s=>match s.ns[n]? with|some x=> .ok x s|none=> .out
def posM(n:Nat):M Nat:=fun s=>match s.ns[n]? with|some x=> .ok x.pos s|none=> .out
def kF(n:Nat):M Bool:=fun s=>match s.ns[n]? with|some x=> .ok (x.kind==6||x.kind==17||x.kind==18) s|none=> .out
def endT:M Unit:=fun s=>if isT T s [59]then(if s.i+1<T.length then .ok () {s with i:=s.i+1}else .out)else if isT T s [125]||(nowT T s).kind==0||(nowT T s).line then .ok () s else .err (nowT T s).fr
def eQ(s:St)(n:Nat):Bool:=(bU T s n).kind==1&&(bU T s (n+1)).txt==[58]
def iO(t:Tk):Bool:=(t.kind==2&&t.text==[105,110])||(t.kind==1&&t.text==[111,102])
def assignOps:List (List UInt8):=[[61],[43,61],[45,61],[42,61],[47,61],[37,61],[42,42,61],[60,60,61],[62,62,61],[62,62,62,61],[38,61],[124,61],[94,61]]
def unaryOps:List (List UInt8):=[[33],[126],[43],[45],[116,121,112,101,111,102],[118,111,105,100],[100,101,108,101,116,101]]
def dX(x:List UInt8):Nat:=
 if x==[124,124]then 1 else if x==[38,38]then 2 else if x==[124]then 3 else if x==[94]then 4 else if x==[38]then 5
 else if[[61,61],[33,61],[61,61,61],[33,61,61]].contains x then 6
 else if[[60],[62],[60,61],[62,61],[105,110,115,116,97,110,99,101,111,102],[105,110]].contains x then 7
 else if[[60,60],[62,62],[62,62,62]].contains x then 8
 else if[[43],[45]].contains x then 9
 else if[[42],[47],[37]].contains x then 10 else 0
def gM(s:St):Nat→Nat→Option Bool
 |0,_=>none
 |f+1,n=>
  if(bU T s n).txt==[41]then some ((bU T s (n+1)).txt==[61,62]&& !(bU T s (n+1)).line)
  else
   let rest:=(bU T s n).txt==[46,46,46]
   let n:=if rest then n+1 else n
   if(bU T s n).kind≠1 then some false
   else
    let n:=n+1
    let x:=(bU T s n).txt
    if x==[44]&& !rest&&(bU T s (n+1)).txt !=[41]then gM s f (n+1)
    else if x !=[41]then some false
    else gM s f n
def lV(s:St):Bool:=
 if(nowT T s).kind=1 then(bU T s 1).txt==[61,62]&& !(bU T s 1).line
 else if isT T s [40]then(gM T s (T.length+3) 1).getD false
 else false
def iK(s:St):Nat→Nat→Nat
 |0,n=>n
 |f+1,n=>if eQ T s n then iK s f (n+2)else n
end
inductive Fn1 where
 |expression (inn:Bool)|exprLoop (inn:Bool) (kids:List Nat)|assignment (inn:Bool)|conditional (inn:Bool)
 |binary (least:Nat) (inn:Bool)|binLoop (least:Nat) (inn:Bool) (a:Nat)|power|unary|member|maker|tail (e:Nat) (calls:Bool)
 |primary|template|tplLoop (pos:Nat) (kids:List Nat)|array|arrLoop (pos:Nat) (kids:List Nat)|object|objLoop (pos:Nat) (kids:List Nat)
 |property|key|accessor|argument|parens|statement|block|body
 |declaration (inn:Bool)|declLoop (inn:Bool) (kind pos:Nat) (kids:List Nat)
 |lett|function (pos:Nat)|branch (pos:Nat)|whil (pos:Nat)|doo (pos:Nat)|leave (pos:Nat)|back (pos:Nat)|throw (pos:Nat)|tryy (pos:Nat)
 |choice (pos:Nat)|chLoop (pos:Nat) (known:Bool) (kids:List Nat)|loop (pos:Nat)|each (pos:Nat) (declares:Bool)
 |parameters|parLoop (pos:Nat) (kids:List Nat)
inductive FnL where
 |list|listLoop (kids:List Nat)|arguments|argLoop (kids:List Nat)
structure Rec where
 e:Fn1→M Nat
 l:FnL→M (List Nat)
section
variable(T:List Tk)(r:Rec)
def iR(inn:Bool):M Nat:=do
 let a←r.e (.assignment inn)
 r.e (.exprLoop inn [a])
def kJ(inn:Bool)(kids:List Nat):M Nat:=do
 if←eY T [44]then
  let a←r.e (.assignment inn)
  r.e (.exprLoop inn (kids++[a]))
 else
  match kids with
  |[k]=>pure k
  |_=>do
   let pe←posM (kids.headD 0)
   cP 27 pe kids
def iQ:M Nat:=do
 let pos←dA T [40]
 r.e (.parLoop pos [])
def iH(pos:Nat)(kids:List Nat):M Nat:=do
 let _←dA T [41]
 cP 30 pos kids
def mE(pos:Nat)(kids:List Nat):M Nat:=fun s=>
 if isT T s [41]then iH T pos kids s
 else
  let fr:=(nowT T s).fr
  (do
   if←eY T [46,46,46]then
    let x←gW T
    let k←eM 31 x fr []
    iH T pos (kids++[k])
   else
    let x←gW T
    let k←eM 6 x fr []
    fun s=>if isT T s [41]then iH T pos (kids++[k]) s
     else(do
      let _←dA T [44]
      fun s=>if isT T s [41]then .err (nowT T s).fr else r.e (.parLoop pos (kids++[k])) s:M Nat) s:M Nat) s
def iS(inn:Bool):M Nat:=fun s=>
 let pos:=(nowT T s).fr
 if lV T s then
  (do
   let params←(fun s=>if isT T s [40]then r.e .parameters s else(do
    let x←gW T
    let k←eM 6 x pos []
    cP 30 pos [k]:M Nat) s)
   let _←dA T [61,62]
   fun s=>if isT T s [123]then(do
    let b←r.e .block
    cP 14 pos [params,b]:M Nat) s
    else(do
     let b←r.e (.assignment inn)
     cP 14 pos [params,b]:M Nat) s:M Nat) s
 else
  (do
   let e←r.e (.conditional inn)
   fun s=>
    let op:=(nowT T s).txt
    if op=[]|| !(assignOps.contains op)then .ok e s
    else(do
     if←kF e then
      dS T
      let pe←posM e
      let b←r.e (.assignment inn)
      eM 26 op pe [e,b]
     else failT T:M Nat) s:M Nat) s
def iC(inn:Bool):M Nat:=do
 let e←r.e (.binary 1 inn)
 if←eY T [63]then
  let a←r.e (.assignment true)
  let _←dA T [58]
  let pe←posM e
  let b←r.e (.assignment inn)
  cP 25 pe [e,a,b]
 else pure e
def nX(least:Nat)(inn:Bool):M Nat:=do
 let a←r.e .power
 r.e (.binLoop least inn a)
def mG(least:Nat)(inn:Bool)(a:Nat):M Nat:=fun s=>
 let op:=(nowT T s).txt
 let k:=dX op
 if decide (k<least)||(op==[105,110]&& !inn)then .ok a s
 else(do
  dS T
  let b←r.e (.binary (k+1) inn)
  let pa←posM a
  let c←(if op==[124,124]then cP 24 pa [a,b]else if op==[38,38]then cP 23 pa [a,b]else eM 22 op pa [a,b])
  r.e (.binLoop least inn c):M Nat) s
def nC(s:St):Bool:=unaryOps.contains (nowT T s).txt
def pV:M Nat:=fun s=>
 let signed:=nC T s
 (do
  let a←r.e .unary
  fun s=>if !(isT T s [42,42])then .ok a s
   else if signed then .err (nowT T s).fr
   else(do
    dS T
    let pa←posM a
    let b←r.e .power
    eM 22 [42,42] pa [a,b]:M Nat) s:M Nat) s
def pT:M Nat:=fun s=>
 let t:=nowT T s
 if nC T s then(do
  dS T
  let e←r.e .unary
  eM 19 t.text t.fr [e]:M Nat) s
 else if isT T s [43,43]||isT T s [45,45]then(do
  dS T
  let e←r.e .unary
  if←kF e then eM 20 t.text t.fr [e]else tR t.fr:M Nat) s
 else(do
  let e←r.e .member
  fun s=>
   let t:=nowT T s
   if(isT T s [43,43]||isT T s [45,45])&& !t.line then
    (do
     if←kF e then
      dS T
      let pe←posM e
      eM 21 t.text pe [e]
     else failT T:M Nat) s
   else .ok e s:M Nat) s
def kL:M Nat:=fun s=>
 let pos:=(nowT T s).fr
 (do
  if←eY T [46,46,46]then
   let a←r.e (.assignment true)
   cP 29 pos [a]
  else r.e (.assignment true):M Nat) s
def iI:M (List Nat):=do
 let _←dA T [40]
 if←eY T [41]then pure []
 else
  let a←r.e .argument
  r.l (.argLoop [a])
def jW(kids:List Nat):M (List Nat):=do
 if←eY T [44]then
  let a←r.e .argument
  r.l (.argLoop (kids++[a]))
 else
  let _←dA T [41]
  pure kids
def pW:M Nat:=do
 let pos←dA T [110,101,119]
 let c←(fun s=>if isT T s [110,101,119]then r.e .maker s else r.e .primary s)
 let k←r.e (.tail c false)
 fun s=>if isT T s [40]then(do
  let l←r.l .arguments
  cP 16 pos (k::l):M Nat) s
  else cP 16 pos [k] s
def uS(e:Nat)(calls:Bool):M Nat:=do
 if←eY T [46]then
  fun s=>
   let t:=nowT T s
   if t.kind≠1∧t.kind≠2 then .err t.fr
   else(do
    dS T
    let pe←posM e
    let e'←eM 17 t.text pe [e]
    r.e (.tail e' calls):M Nat) s
 else if←eY T [91]then
  let k←r.e (.expression true)
  let _←dA T [93]
  let pe←posM e
  let e'←cP 18 pe [e,k]
  r.e (.tail e' calls)
 else fun s=>
  if calls&&isT T s [40]then
   (do
    let pe←posM e
    let l←r.l .arguments
    let e'←cP 15 pe (e::l)
    r.e (.tail e' calls):M Nat) s
  else .ok e s
def nT:M Nat:=fun s=>
 if isT T s [110,101,119]then(do
  let k←r.e .maker
  r.e (.tail k true):M Nat) s
 else(do
  let k←r.e .primary
  r.e (.tail k true):M Nat) s
def gZ(x:List UInt8):Option Nat:=
 if x==[116,104,105,115]then some 7 else if x==[110,117,108,108]then some 5 else if x==[116,114,117,101]then some 3 else if x==[102,97,108,115,101]then some 4 else none
def mD:M Nat:=fun s=>
 let t:=nowT T s
 if t.kind=1 then(do dS T;eM 6 t.text t.fr []:M Nat) s
 else if t.kind=4 then(do dS T;addN {kind:=1,text:=[],str:=[],num:=t.num,kids:=[],pos:=t.fr}:M Nat) s
 else if t.kind=5 then(do dS T;addN {kind:=2,text:=[],str:=t.str,num:=0,kids:=[],pos:=t.fr}:M Nat) s
 else if t.kind=6∨t.kind=7 then r.e .template s
 else match gZ t.txt with
  |some k=>(do dS T;cP k t.fr []:M Nat) s
  |none=>
   if t.txt==[40]then r.e .parens s
   else if t.txt==[91]then r.e .array s
   else if t.txt==[123]then r.e .object s
   else if t.txt==[102,117,110,99,116,105,111,110]then(do
    dS T
    let x←(fun s=>if(nowT T s).kind=1 then gW T s else .ok [] s)
    let ps←r.e .parameters
    let b←r.e .block
    eM 13 x t.fr [ps,b]:M Nat) s
   else .err t.fr
def kG:M Nat:=fun s=>r.e (.tplLoop (nowT T s).fr []) s
def mC(pos:Nat)(kids:List Nat):M Nat:=fun s=>
 let t:=nowT T s
 (do
  dS T
  let k←addN {kind:=2,text:=[],str:=t.str,num:=0,kids:=[],pos:=t.fr}
  if t.kind=6∨t.kind=9 then cP 28 pos (kids++[k])
  else
   let e←r.e (.expression true)
   fun s=>if(nowT T s).kind≠8∧(nowT T s).kind≠9 then .err (nowT T s).fr else r.e (.tplLoop pos (kids++[k]++[e])) s:M Nat) s
def pZ:M Nat:=do
 let pos←dA T [91]
 r.e (.arrLoop pos [])
def mH(pos:Nat)(kids:List Nat):M Nat:=fun s=>
 if isT T s [93]then(do
  let _←dA T [93]
  cP 8 pos kids:M Nat) s
 else(do
  let a←r.e .argument
  let _←(fun s=>if isT T s [93]then .ok 0 s else dA T [44] s)
  r.e (.arrLoop pos (kids++[a])):M Nat) s
def nS:M Nat:=do
 let pos←dA T [123]
 r.e (.objLoop pos [])
def mF(pos:Nat)(kids:List Nat):M Nat:=fun s=>
 if isT T s [125]then(do
  let _←dA T [125]
  cP 9 pos kids:M Nat) s
 else(do
  let a←r.e .property
  let _←(fun s=>if isT T s [125]then .ok 0 s else dA T [44] s)
  r.e (.objLoop pos (kids++[a])):M Nat) s
def mW(x:List UInt8):List UInt8:=x.flatMap fun c=>[0,c]
def s_key:M Nat:=fun s=>
 let t:=nowT T s
 if t.kind=1∨t.kind=2 then(do dS T;addN {kind:=2,text:=[],str:=mW t.text,num:=0,kids:=[],pos:=t.fr}:M Nat) s
 else if t.kind=5 then(do dS T;addN {kind:=2,text:=[],str:=t.str,num:=0,kids:=[],pos:=t.fr}:M Nat) s
 else if t.kind=4 then(do dS T;addN {kind:=1,text:=[],str:=[],num:=t.num,kids:=[],pos:=t.fr}:M Nat) s
 else(do
  let _←dA T [91]
  let e←r.e (.assignment true)
  let _←dA T [93]
  cP 56 t.fr [e]:M Nat) s
def kM:M Nat:=fun s=>
 let t:=nowT T s
 (do
  dS T
  let k←r.e .key
  let from'←(fun s=> .ok s.i s:M Nat)
  let ps←r.e .parameters
  let nd←ndM ps
  if t.text==[103,101,116]&&decide (0<nd.kids.length)then
   let pk←posM (nd.kids.headD 0)
   tR pk
  else
   let bad←(if t.text==[115,101,116]then(if nd.kids.length=1 then(do
    let x←ndM (nd.kids.headD 0)
    pure (decide (x.kind≠6)):M Bool)else pure true)else pure false)
   if bad then
    if from'+2<T.length then
     if(T.getD (from'+1) default).kind=1 then(if from'+3≤T.length then tR (T.getD (from'+2) default).fr else fun _=> .out)
     else tR (T.getD (from'+1) default).fr
    else fun _=> .out
   else
    let pp←posM ps
    let b←r.e .block
    let f←cP 13 pp [ps,b]
    cP (if t.text==[115,101,116]then 12 else 11) t.fr [k,f]:M Nat) s
def kH:M Nat:=fun s=>
 let t:=nowT T s
 let behind:=(bU T s 1).txt
 if t.kind=1∧(t.text=[103,101,116]∨t.text=[115,101,116])∧ ![[44],[58],[40],[125]].contains behind then r.e .accessor s
 else(do
  let k←r.e .key
  let pk←posM k
  fun s=>
   if t.kind=1∧(isT T s [44]||isT T s [125])then(do
    let x←eM 6 t.text t.fr []
    cP 10 pk [k,x]:M Nat) s
   else if isT T s [40]then(do
    let ps←r.e .parameters
    let pp←posM ps
    let b←r.e .block
    let f←cP 13 pp [ps,b]
    cP 10 pk [k,f]:M Nat) s
   else(do
    let _←dA T [58]
    let v←r.e (.assignment true)
    cP 10 pk [k,v]:M Nat) s:M Nat) s
def uU:M (List Nat):=r.l (.listLoop [])
def iY(kids:List Nat):M (List Nat):=fun s=>
 if(nowT T s).kind=0∨isT T s [125]∨isT T s [99,97,115,101]∨isT T s [100,101,102,97,117,108,116]then .ok kids s
 else(do
  let k←r.e .statement
  r.l (.listLoop (kids++[k])):M (List Nat)) s
def pY:M Nat:=do
 let pos←dA T [123]
 let kids←r.l .list
 let _←dA T [125]
 cP 32 pos kids
def nR:M Nat:=do
 let _←dA T [40]
 let e←r.e (.expression true)
 let _←dA T [41]
 pure e
def uX:M Nat:=fun s=>
 let n:=iK T s T.length 0
 let x:=(bU T s n).txt
 if x==[108,101,116]||x==[99,111,110,115,116]||x==[102,117,110,99,116,105,111,110]then .err (bU T s n).fr
 else r.e .statement s
def iB(inn:Bool):M Nat:=fun s=>
 let t:=nowT T s
 (do
  dS T
  r.e (.declLoop inn (if t.text==[99,111,110,115,116]then 34 else 33) t.fr []):M Nat) s
def kK(inn:Bool)(kind pos:Nat)(kids:List Nat):M Nat:=fun s=>
 let fr:=(nowT T s).fr
 (do
  let x←gW T
  let init←(do
   if←eY T [61]then
    let a←r.e (.assignment inn)
    pure [a]
   else pure []:M (List Nat))
  let k←eM 35 x fr init
  if←eY T [44]then r.e (.declLoop inn kind pos (kids++[k]))
  else cP kind pos (kids++[k]):M Nat) s
def s_let:M Nat:=do
 let n←r.e (.declaration true)
 endT T
 pure n
def kI(pos:Nat):M Nat:=do
 dS T
 let x←gW T
 let ps←r.e .parameters
 let b←r.e .block
 eM 53 x pos [ps,b]
def nW(pos:Nat):M Nat:=do
 dS T
 let c←r.e .parens
 let b←r.e .body
 if←eY T [101,108,115,101]then
  let e←r.e .body
  cP 38 pos [c,b,e]
 else cP 38 pos [c,b]
def pS(pos:Nat):M Nat:=do
 dS T
 let e←r.e .parens
 let b←r.e .body
 cP 42 pos [e,b]
def s_do(pos:Nat):M Nat:=do
 dS T
 let b←r.e .body
 let _←dA T [119,104,105,108,101]
 let e←r.e .parens
 let _←eY T [59]
 cP 43 pos [b,e]
def pX(pos:Nat):M Nat:=fun s=>
 let kind:=if isT T s [99,111,110,116,105,110,117,101]then 45 else 44
 (do
  dS T
  let label←(fun s=>if(nowT T s).kind=1∧(nowT T s).line=false then gW T s else .ok [] s)
  endT T
  eM kind label pos []:M Nat) s
def uY(pos:Nat):M Nat:=do
 dS T
 let kids←(fun s=>if(nowT T s).line=false∧(nowT T s).kind≠0∧isT T s [59]=false∧isT T s [125]=false then(do
  let e←r.e (.expression true)
  pure [e]:M (List Nat)) s else .ok [] s)
 endT T
 cP 46 pos kids
def pU(pos:Nat):M Nat:=do
 dS T
 fun s=>if(nowT T s).line then .err (nowT T s).fr
  else(do
   let e←r.e (.expression true)
   endT T
   cP 47 pos [e]:M Nat) s
def s_try(pos:Nat):M Nat:=do
 dS T
 let b←r.e .block
 let catch'←eY T [99,97,116,99,104]
 let(x,c)←(if catch' then(do
  let _←dA T [40]
  let x←gW T
  let _←dA T [41]
  let c←r.e .block
  pure (x,c):M (List UInt8×Nat))else(do
  let c←cP 54 0 []
  pure ([],c):M (List UInt8×Nat)))
 let fin←eY T [102,105,110,97,108,108,121]
 let f←(if fin then r.e .block else cP 54 0 [])
 if !catch'&& !fin then failT T
 else eM 48 x pos [b,c,f]
def nU(pos:Nat):M Nat:=do
 dS T
 let e←r.e .parens
 let _←dA T [123]
 r.e (.chLoop pos false [e])
def nV(pos:Nat)(known:Bool)(kids:List Nat):M Nat:=fun s=>
 if isT T s [125]then(do
  let _←dA T [125]
  cP 49 pos kids:M Nat) s
 else
  let fr:=(nowT T s).fr
  (do
   if←eY T [99,97,115,101]then
    let e←r.e (.expression true)
    let _←dA T [58]
    let l←r.l .list
    let k←cP 50 fr (e::l)
    r.e (.chLoop pos known (kids++[k]))
   else fun s=>
    if !known&&isT T s [100,101,102,97,117,108,116]then(do
     dS T
     let _←dA T [58]
     let l←r.l .list
     let k←cP 51 fr l
     r.e (.chLoop pos true (kids++[k])):M Nat) s
    else .err (nowT T s).fr:M Nat) s
def uT(pos:Nat):M Nat:=do
 dS T
 let _←dA T [40]
 fun s=>
  let declares:=isT T s [108,101,116]||isT T s [99,111,110,115,116]
  let skip:=if declares then 1 else 0
  if(bU T s skip).kind=1∧iO (bU T s (skip+1))then r.e (.each pos declares) s
  else(do
   let a←(if declares then r.e (.declaration false)else fun s=>if isT T s [59]then cP 54 0 [] s else r.e (.expression false) s)
   let _←dA T [59]
   let b←(fun s=>if isT T s [59]then cP 54 0 [] s else r.e (.expression true) s)
   let _←dA T [59]
   let c←(fun s=>if isT T s [41]then cP 54 0 [] s else r.e (.expression true) s)
   let _←dA T [41]
   let d←r.e .body
   cP 39 pos [a,b,c,d]:M Nat) s
def uW(pos:Nat)(declares:Bool):M Nat:=fun s=>
 let head:=nowT T s
 (do
  if declares then dS T else pure ()
  fun s=>
   let t:=nowT T s
   (do
    dS T
    let first←(if !declares then eM 6 t.text t.fr []else(do
     let k←eM 35 t.text t.fr []
     cP (if head.text==[108,101,116]then 33 else 34) head.fr [k]:M Nat))
    if←eY T [105,110]then
     let e←r.e (.expression true)
     let _←dA T [41]
     let b←r.e .body
     cP 40 pos [first,e,b]
    else
     dS T
     let e←r.e (.assignment true)
     let _←dA T [41]
     let b←r.e .body
     cP 41 pos [first,e,b]:M Nat) s:M Nat) s
def lD(x:List UInt8)(pos:Nat):Option Fn1:=
 if x==[108,101,116]then some .lett else if x==[99,111,110,115,116]then some .lett else if x==[102,117,110,99,116,105,111,110]then some (.function pos)else if x==[105,102]then some (.branch pos)
 else if x==[119,104,105,108,101]then some (.whil pos)else if x==[100,111]then some (.doo pos)else if x==[102,111,114]then some (.loop pos)else if x==[98,114,101,97,107]then some (.leave pos)
 else if x==[99,111,110,116,105,110,117,101]then some (.leave pos)else if x==[114,101,116,117,114,110]then some (.back pos)else if x==[116,104,114,111,119]then some (.throw pos)else if x==[116,114,121]then some (.tryy pos)
 else if x==[115,119,105,116,99,104]then some (.choice pos)else none
def jG:M Nat:=fun s=>
 let t:=nowT T s
 if eQ T s 0 then(do
  dS T
  dS T
  let b←r.e .body
  eM 52 t.text t.fr [b]:M Nat) s
 else if isT T s [123]then r.e .block s
 else(do
  if←eY T [59]then cP 36 t.fr []
  else match(if t.kind=2 then lD t.txt t.fr else none)with
   |some f=>r.e f
   |none=>do
    let e←r.e (.expression true)
    endT T
    let pe←posM e
    cP 37 pe [e]:M Nat) s
def dJ:Fn1→M Nat
 | .expression inn=>iR r inn
 | .exprLoop inn kids=>kJ T r inn kids
 | .assignment inn=>iS T r inn
 | .conditional inn=>iC T r inn
 | .binary least inn=>nX r least inn
 | .binLoop least inn a=>mG T r least inn a
 | .power=>pV T r
 | .unary=>pT T r
 | .member=>nT T r
 | .maker=>pW T r
 | .tail e calls=>uS T r e calls
 | .primary=>mD T r
 | .template=>kG T r
 | .tplLoop pos kids=>mC T r pos kids
 | .array=>pZ T r
 | .arrLoop pos kids=>mH T r pos kids
 | .object=>nS T r
 | .objLoop pos kids=>mF T r pos kids
 | .property=>kH T r
 | .key=>s_key T r
 | .accessor=>kM T r
 | .argument=>kL T r
 | .parens=>nR T r
 | .statement=>jG T r
 | .block=>pY T r
 | .body=>uX T r
 | .declaration inn=>iB T r inn
 | .declLoop inn kind pos kids=>kK T r inn kind pos kids
 | .lett=>s_let T r
 | .function pos=>kI T r pos
 | .branch pos=>nW T r pos
 | .whil pos=>pS T r pos
 | .doo pos=>s_do T r pos
 | .leave pos=>pX T pos
 | .back pos=>uY T r pos
 | .throw pos=>pU T r pos
 | .tryy pos=>s_try T r pos
 | .choice pos=>nU T r pos
 | .chLoop pos known kids=>nV T r pos known kids
 | .loop pos=>uT T r pos
 | .each pos declares=>uW T r pos declares
 | .parameters=>iQ T r
 | .parLoop pos kids=>mE T r pos kids
def mX:FnL→M (List Nat)
 | .list=>uU r
 | .listLoop kids=>iY T r kids
 | .arguments=>iI T r
 | .argLoop kids=>jW T r kids
end
def Fn1.kids:Fn1→List Nat
 | .exprLoop _ k| .tplLoop _ k| .arrLoop _ k| .objLoop _ k| .declLoop _ _ _ k| .chLoop _ _ k| .parLoop _ k=>k
 |_=>[]
def FnL.kids:FnL→List Nat
 | .listLoop k| .argLoop k=>k
 |_=>[]
def run(T:List Tk):Nat→Rec
 |0=>⟨fun _ _=> .out,fun _ _=> .out⟩
 |n+1=>⟨fun f=>if f.kids.length<most then dJ T (run T n) f else fun _=> .out,fun f=>if f.kids.length<most then mX T (run T n) f else fun _=> .out⟩
def mB(T:List Tk)(n:Nat):Res Nat:=(do
 let kids←(run T n).l .list
 fun s=>if(nowT T s).kind≠0 then .err (nowT T s).fr else cP 55 0 kids s:M Nat) {i:=0,ns:=[]}
def exprF(T:List Tk)(n:Nat):Res Nat:=(do
 let x←(run T n).e (.expression true)
 let pe←posM x
 let k←cP 37 pe [x]
 fun s=>if(nowT T s).kind≠0 then .err (nowT T s).fr else cP 55 0 [k] s:M Nat) {i:=0,ns:=[]}
end
section
def cL(c:UInt8):Bool:=c==36||c==95||(decide (97≤(c|||32).toNat)&&decide ((c|||32).toNat≤122))
def dU(c:UInt8):Bool:=decide (48≤c.toNat)&&decide (c.toNat≤57)
def wordList:List (List UInt8):=[[98,114,101,97,107],[99,97,115,101],[99,97,116,99,104],[99,108,97,115,115],[99,111,110,115,116],[99,111,110,116,105,110,117,101],[100,101,98,117,103,103,101,114],[100,101,102,97,117,108,116],[100,101,108,101,116,101],[100,111],[101,108,115,101],[101,110,117,109],[101,120,112,111,114,116],[101,120,116,101,110,100,115],[102,97,108,115,101],[102,105,110,97,108,108,121],[102,111,114],[102,117,110,99,116,105,111,110],[105,102],[105,109,112,111,114,116],[105,110],[105,110,115,116,97,110,99,101,111,102],[110,101,119],[110,117,108,108],[114,101,116,117,114,110],[115,117,112,101,114],[115,119,105,116,99,104],[116,104,105,115],[116,104,114,111,119],[116,114,117,101],[116,114,121],[116,121,112,101,111,102],[118,97,114],[118,111,105,100],[119,104,105,108,101],[119,105,116,104],[105,109,112,108,101,109,101,110,116,115],[105,110,116,101,114,102,97,99,101],[108,101,116],[112,97,99,107,97,103,101],[112,114,105,118,97,116,101],[112,114,111,116,101,99,116,101,100],[112,117,98,108,105,99],[115,116,97,116,105,99],[121,105,101,108,100]]
def gN(x:List UInt8):Bool:=wordList.contains x
def fL(x:List UInt8):Bool:=(match x with|[]=>false|c::_=>cL c)&&x.all (fun c=>cL c||dU c)&& !gN x
def nmB(x:List UInt8):Bool:=fL x&&decide (x.length≤1000000)
def cC(n:Nat):Prop:=n≤0x7FF0000000000000
def lE(src:List UInt8)(p:Nat)(x:List UInt8):Prop:=(src.drop p).take x.length=x
structure TkOk(src:List UInt8)(t:Tk):Prop where
 kind:t.kind≤9
 name:t.kind=1→nmB t.text=true∧lE src t.fr t.text
 word:t.kind=2→gN t.text=true
 str:t.str.length%2=0
 num:cC t.num
 fr:t.fr≤src.length
structure cN(src:List UInt8)(T:List Tk):Prop where
 tk:∀t,t∈T→TkOk src t
 eof:(T.getD (T.length-1) default).kind=0
 pos:0<T.length
 big:T.length≤1000000
def cG(k:Nat):Bool:=(decide (1≤k)&&decide (k≤9))||(decide (13≤k)&&decide (k≤28))
def argK(k:Nat):Bool:=cG k||k==29
def iN(k:Nat):Bool:=(decide (32≤k)&&decide (k≤34))||(decide (36≤k)&&decide (k≤49))||k==52||k==53
def tgtK(k:Nat):Bool:=k==6||k==17||k==18
def keyK(k:Nat):Bool:=k==2||k==1||k==56
def lH(k:Nat):Bool:=decide (10≤k)&&decide (k≤12)
def fN(k:Nat):Bool:=k==33||k==34
def nB(k:Nat):Bool:=k==50||k==51
def midK(k:Nat):Bool:=k==54||cG k
def mK(k:Nat):Bool:=iN k&&k !=33&&k !=34&&k !=53&&k !=52
def hasK(ns:List Nd)(n:Nat)(p:Nat→Bool):Prop:=∃y,ns[n]? =some y∧p y.kind=true
def allK(ns:List Nd)(l:List Nat)(p:Nat→Bool):Prop:=∀n,n∈l→hasK ns n p
inductive IsBody(ns:List Nd):Nat→Prop
 |base {n:Nat} (h:hasK ns n mK):IsBody ns n
 |label {n k:Nat} {y:Nd} (h:ns[n]? =some y) (hk:y.kind=52) (hy:y.kids=[k]) (hl:k<n) (hb:IsBody ns k):IsBody ns n
inductive Alt(ns:List Nd):List Nat→Prop
 |one {a:Nat} (h:hasK ns a (·==2)):Alt ns [a]
 |more {a e:Nat} {l:List Nat} (h:hasK ns a (·==2)) (he:hasK ns e cG) (hl:Alt ns l):Alt ns (a::e::l)
inductive AltE(ns:List Nd):List Nat→Prop
 |nil:AltE ns []
 |more {a e:Nat} {l:List Nat} (h:hasK ns a (·==2)) (he:hasK ns e cG) (hl:AltE ns l):AltE ns (a::e::l)
def parKids(ns:List Nd)(f:Nat)(q:List Nat→Prop):Prop:=∃y p b z,ns[f]? =some y∧y.kind=13∧y.kids=[p,b]∧ns[p]? =some z∧q z.kids
def oneInit(ns:List Nd)(n:Nat):Prop:=∃y i z,ns[n]? =some y∧fN y.kind=true∧y.kids=[i]∧ns[i]? =some z∧z.kids=[]
def binOps:List (List UInt8):=[[43],[45],[42],[47],[37],[42,42],[60,60],[62,62],[62,62,62],[38],[124],[94],[60],[62],[60,61],[62,61],[61,61],[33,61],[61,61,61],[33,61,61],[105,110],[105,110,115,116,97,110,99,101,111,102]]
def jQ(x:List UInt8):Bool:=x.isEmpty||nmB x
inductive Shape(ns:List Nd):Nat→List UInt8→List Nat→Prop
 |num:Shape ns 1 [] []
 |str:Shape ns 2 [] []
 |plain {k:Nat} (h:k=3∨k=4∨k=5∨k=7∨k=36∨k=54):Shape ns k [] []
 |name {x:List UInt8} (h:nmB x=true):Shape ns 6 x []
 |array {l:List Nat} (h:allK ns l argK):Shape ns 8 [] l
 |object {l:List Nat} (h:allK ns l lH):Shape ns 9 [] l
 |prop {k e:Nat} (hk:hasK ns k keyK) (he:hasK ns e cG):Shape ns 10 [] [k,e]
 |getter {k f:Nat} (hk:hasK ns k keyK) (hf:parKids ns f (·=[])):Shape ns 11 [] [k,f]
 |setter {k f:Nat} (hk:hasK ns k keyK) (hf:parKids ns f (fun l=> ∃a,l=[a]∧hasK ns a (·==6))):Shape ns 12 [] [k,f]
 |func {x:List UInt8} {p b:Nat} (hx:jQ x=true) (hp:hasK ns p (·==30)) (hb:hasK ns b (·==32)):Shape ns 13 x [p,b]
 |arrow {p b:Nat} (hp:hasK ns p (·==30)) (hb:hasK ns b (fun k=>k==32||cG k)):Shape ns 14 [] [p,b]
 |call {k e:Nat} {l:List Nat} (hk:k=15∨k=16) (he:hasK ns e cG) (hl:allK ns l argK):Shape ns k [] (e::l)
 |dot {x:List UInt8} {e:Nat} (hx:(nmB x||gN x)=true) (he:hasK ns e cG):Shape ns 17 x [e]
 |two {k a b:Nat} (hk:k=18∨k=23∨k=24) (ha:hasK ns a cG) (hb:hasK ns b cG):Shape ns k [] [a,b]
 |unary {x:List UInt8} {e:Nat} (hx:unaryOps.contains x=true) (he:hasK ns e cG):Shape ns 19 x [e]
 |prepost {k:Nat} {x:List UInt8} {e:Nat} (hk:k=20∨k=21) (hx:x=([43,43]:List UInt8)∨x=([45,45]:List UInt8)) (he:hasK ns e tgtK):Shape ns k x [e]
 |binary {x:List UInt8} {a b:Nat} (hx:binOps.contains x=true) (ha:hasK ns a cG) (hb:hasK ns b cG):Shape ns 22 x [a,b]
 |cond {a b d:Nat} (ha:hasK ns a cG) (hb:hasK ns b cG) (hd:hasK ns d cG):Shape ns 25 [] [a,b,d]
 |assign {x:List UInt8} {a b:Nat} (hx:assignOps.contains x=true) (ha:hasK ns a tgtK) (hb:hasK ns b cG):Shape ns 26 x [a,b]
 |seq {a b:Nat} {l:List Nat} (h:allK ns (a::b::l) cG):Shape ns 27 [] (a::b::l)
 |template {l:List Nat} (h:Alt ns l):Shape ns 28 [] l
 |one {k e:Nat} (hk:k=29∨k=37∨k=47∨k=56) (he:hasK ns e cG):Shape ns k [] [e]
 |params {l r:List Nat} (hl:allK ns l (·==6)) (hr:r=[]∨∃a,r=[a]∧hasK ns a (·==31)):Shape ns 30 [] (l++r)
 |rest {x:List UInt8} (hx:nmB x=true):Shape ns 31 x []
 |stmts {k:Nat} {l:List Nat} (hk:k=32∨k=51∨k=55) (hl:allK ns l iN):Shape ns k [] l
 |decl {k a:Nat} {l:List Nat} (hk:fN k=true) (hl:allK ns (a::l) (·==35)):Shape ns k [] (a::l)
 |init {x:List UInt8} {l:List Nat} (hx:nmB x=true) (hl:l=[]∨∃e,l=[e]∧hasK ns e cG):Shape ns 35 x l
 |ret {l:List Nat} (hl:l=[]∨∃e,l=[e]∧hasK ns e cG):Shape ns 46 [] l
 |ifs {e b:Nat} {l:List Nat} (he:hasK ns e cG) (hb:IsBody ns b) (hl:l=[]∨∃d,l=[d]∧IsBody ns d):Shape ns 38 [] (e::b::l)
 |fors {f m n b:Nat} (hf:hasK ns f (fun k=>fN k||midK k)) (hm:hasK ns m midK) (hn:hasK ns n midK) (hb:IsBody ns b):Shape ns 39 [] [f,m,n,b]
 |each {k a e b:Nat} (hk:k=40∨k=41) (ha:hasK ns a (·==6)∨oneInit ns a) (he:hasK ns e cG) (hb:IsBody ns b):Shape ns k [] [a,e,b]
 |whiles {e b:Nat} (he:hasK ns e cG) (hb:IsBody ns b):Shape ns 42 [] [e,b]
 |dos {b e:Nat} (hb:IsBody ns b) (he:hasK ns e cG):Shape ns 43 [] [b,e]
 |leave {k:Nat} {x:List UInt8} (hk:k=44∨k=45) (hx:jQ x=true):Shape ns k x []
 |tries {x:List UInt8} {b c f:Nat} (hb:hasK ns b (·==32)) (h:(nmB x=true∧hasK ns c (·==32)∧hasK ns f (fun k=>k==32||k==54))∨(x=[]∧hasK ns c (·==54)∧hasK ns f (·==32))):Shape ns 48 x [b,c,f]
 |switch {e:Nat} {l m:List Nat} (he:hasK ns e cG) (hl:allK ns l nB) (hd:∃l1 l2,l=l1++l2∧allK ns l1 (·==50)∧(l2=[]∨∃d l3,l2=d::l3∧hasK ns d (·==51)∧allK ns l3 (·==50))):Shape ns 49 [] (e::l)
 |case {e:Nat} {l:List Nat} (he:hasK ns e cG) (hl:allK ns l iN):Shape ns 50 [] (e::l)
 |label {x:List UInt8} {b:Nat} (hx:nmB x=true) (hb:IsBody ns b):Shape ns 52 x [b]
 |fun_ {x:List UInt8} {p b:Nat} (hx:nmB x=true) (hp:hasK ns p (·==30)) (hb:hasK ns b (·==32)):Shape ns 53 x [p,b]
structure nK(src:List UInt8)(ns:List Nd)(x:Nd):Prop where
 shape:Shape ns x.kind x.text x.kids
 num:(x.kind=1∧cC x.num)∨(x.kind≠1∧x.num=0)
 str:(x.kind=2∧x.str.length%2=0)∨(x.kind≠2∧x.str=[])
 pos:x.pos≤src.length
 name:x.kind=6→lE src x.pos x.text
def AllGood(src:List UInt8)(ns:List Nd):Prop:=∀n x,ns[n]? =some x→nK src (ns.take n) x
def Forest(ns:List Nd)(F:List Nat):Prop:=(F++ns.flatMap (·.kids)).Perm (List.range ns.length)
theorem gQ{ns ns':List Nd}(h:ns<+:ns'){n:Nat}{y:Nd}(hy:ns[n]? =some y):ns'[n]? =some y:=by
 obtain⟨t,rfl⟩:=h;have hn:=(List.getElem?_eq_some_iff.1 hy).1;rw[List.getElem?_append_left hn];exact hy
section
variable{ns ns':List Nd}(h:ns<+:ns')
include h
theorem hasK.mono{n:Nat}{p:Nat→Bool}(k:hasK ns n p):hasK ns' n p:=by obtain⟨y,h1,h2⟩:=k;exact⟨y,gQ h h1,h2⟩
theorem allK.mono{l:List Nat}{p:Nat→Bool}(k:allK ns l p):allK ns' l p:=fun n hn=>(k n hn).mono h
theorem IsBody.mono{n:Nat}(k:IsBody ns n):IsBody ns' n:=by
 induction k with
 |base h1=>exact .base (h1.mono h)
 |label h1 h2 h3 h4 _ ih=>exact .label (gQ h h1) h2 h3 h4 ih
theorem Alt.mono{l:List Nat}(k:Alt ns l):Alt ns' l:=by
 induction k with
 |one h1=>exact .one (h1.mono h)
 |more h1 h2 _ ih=>exact .more (h1.mono h) (h2.mono h) ih
theorem AltE.mono{l:List Nat}(k:AltE ns l):AltE ns' l:=by
 induction k with
 |nil=>exact .nil
 |more h1 h2 _ ih=>exact .more (h1.mono h) (h2.mono h) ih
end
theorem hasK.imp{ns:List Nd}{n:Nat}{p q:Nat→Bool}(k:hasK ns n p)(h:∀k,p k=true→q k=true):hasK ns n q:=by obtain⟨y,h1,h2⟩:=k;exact⟨y,h1,h _ h2⟩
theorem allK.nil{ns:List Nd}{p:Nat→Bool}:allK ns [] p:=fun n hn=>by simp at hn
theorem allK.cons{ns:List Nd}{p:Nat→Bool}{a:Nat}{l:List Nat}(ha:hasK ns a p)(hl:allK ns l p):allK ns (a::l) p:=fun n hn=>by
 rcases List.mem_cons.1 hn with e|e
 ·subst e;exact ha
 ·exact hl n e
theorem allK.app{ns:List Nd}{p:Nat→Bool}{l m:List Nat}(hl:allK ns l p)(hm:allK ns m p):allK ns (l++m) p:=fun n hn=>(List.mem_append.1 hn).elim (hl n) (hm n)
theorem allK.snoc{ns:List Nd}{p:Nat→Bool}{l:List Nat}{a:Nat}(hl:allK ns l p)(ha:hasK ns a p):allK ns (l++[a]) p:=hl.app (.cons ha .nil)
theorem AltE.snoc{ns:List Nd}{l:List Nat}{a e:Nat}(hl:AltE ns l)(ha:hasK ns a (·==2))(he:hasK ns e cG):AltE ns (l++[a]++[e]):=by
 induction hl with
 |nil=>exact .more ha he .nil
 |more h1 h2 _ ih=>exact .more h1 h2 ih
theorem AltE.last{ns:List Nd}{l:List Nat}{a:Nat}(hl:AltE ns l)(ha:hasK ns a (·==2)):Alt ns (l++[a]):=by
 induction hl with
 |nil=>exact .one ha
 |more h1 h2 _ ih=>exact .more h1 h2 ih
theorem Forest.perm{ns:List Nd}{F G:List Nat}(h:Forest ns F)(p:F.Perm G):Forest ns G:=(p.symm.append_right _).trans h
theorem Forest.add{ns:List Nd}{x:Nd}{F:List Nat}(h:Forest ns (x.kids++F)):Forest (ns++[x]) (ns.length::F):=by
 unfold Forest at*;simp only[List.flatMap_append,List.flatMap_cons,List.flatMap_nil,List.append_nil,aC,aB,aD,List.range_succ,aR];generalize ns.flatMap (·.kids)=K at h⊢
 have h1:(F++(K++x.kids)).Perm (x.kids++F++K):=by
  rw[←List.append_assoc,List.append_assoc x.kids];exact List.perm_append_comm
 have h2:(ns.length::F++(K++x.kids)).Perm (ns.length::List.range ns.length):=(h1.trans h).cons _;exact h2.trans (List.perm_append_comm (l₁:=[ns.length]))
theorem Forest.lt{ns:List Nd}{F:List Nat}(h:Forest ns F){k:Nat}(hk:k∈F):k<ns.length:=by
 have:=h.mem_iff.1 (List.mem_append_left _ hk);simpa using this
theorem Forest.len{ns:List Nd}{F:List Nat}(h:Forest ns F):F.length≤ns.length:=by
 have:=h.length_eq;simp at this;omega
theorem AllGood.nil{src:List UInt8}:AllGood src []:=fun n x h=>by simp at h
theorem AllGood.add{src:List UInt8}{ns:List Nd}{x:Nd}(h:AllGood src ns)(hx:nK src ns x):AllGood src (ns++[x]):=by
 intro n y hy;rcases Nat.lt_or_ge n ns.length with hn|hn
 ·rw[List.getElem?_append_left hn]at hy;rw[List.take_append_of_le_length (Nat.le_of_lt hn)];exact h n y hy
 ·have hn':n=ns.length:=by
   have:=(List.getElem?_eq_some_iff.1 hy).1;simp at this;omega
  subst hn';simp at hy;subst hy;rw[List.take_left' rfl];exact hx
def TrR{α:Type}(r:Res α)(Q:α→St→Prop):Prop:=match r with
 | .ok a s'=>Q a s'
 | .err _=>True
 | .out=>False
section
variable{α β:Type}{m:M α}{f:α→M β}{s:St}{Q:β→St→Prop}
theorem TrR.bind(h:TrR (m s) fun a s'=>TrR (f a s') Q):TrR ((m>>=f) s) Q:=by
 unfold TrR at*;show match M.bind m f s with| .ok a s'=>Q a s'| .err _=>True| .out=>False
 unfold M.bind;cases hm:m s<;>simp_all
theorem TrR.mono{r:Res α}{R R':α→St→Prop}(h:TrR r R)(hr:∀a s',R a s'→R' a s'):TrR r R':=by
 unfold TrR at*;cases r<;>simp_all
theorem TrR.pure{a:β}(h:Q a s):TrR ((Pure.pure a:M β) s) Q:=h
theorem TrR.ok{a:β}{s':St}(h:Q a s'):TrR (Res.ok a s') Q:=h
theorem TrR.ite{p:Prop}[Decidable p]{m1 m2:Res β}(h1:p→TrR m1 Q)(h2:¬p→TrR m2 Q):TrR (if p then m1 else m2) Q:=by
 split
 ·exact h1 ‹_›
 ·exact h2 ‹_›
end
structure Ok(src:List UInt8)(T:List Tk)(s:St)(F:List Nat):Prop where
 lt:s.i<T.length
 good:AllGood src s.ns
 fo:Forest s.ns F
 cnt:s.ns.length≤8*s.i+4
theorem Ok.perm{src:List UInt8}{T:List Tk}{s:St}{F G:List Nat}(h:Ok src T s F)(p:F.Perm G):Ok src T s G:=⟨h.lt,h.good,h.fo.perm p,h.cnt⟩
section
variable{src:List UInt8}{T:List Tk}{α:Type}{s:St}{F:List Nat}{Q:α→St→Prop}
theorem dY(h:s.i<T.length):nowT T s∈T:=by
 unfold nowT;rw[List.getD_eq_getElem?_getD,aS h];exact List.getElem_mem h
theorem kN(hT:cN src T)(h:s.i<T.length)(hk:(nowT T s).kind≠0):s.i+1<T.length:=by
 rcases Nat.lt_or_ge (s.i+1) T.length with h1|h1
 ·exact h1
 ·exact absurd (by have:s.i=T.length-1:=by omega
                   unfold nowT;rw[this];exact hT.eof) hk
theorem gC{x:List UInt8}{t:Tk}(h:t.txt=x)(hx:x≠[]):t.kind=2∨t.kind=3:=by
 unfold Tk.txt at h;split at h
 ·omega
 ·exact absurd h.symm hx
theorem qQ{t:Tk}(h:t.txt≠[]):t.txt=t.text:=by
 unfold Tk.txt at*;split
 ·rfl
 ·rename_i hn;rw[if_neg hn]at h;exact absurd rfl h
theorem rQ{x:List UInt8}(h:isT T s x=true)(hx:x≠[]):(nowT T s).kind≠0:=by
 have:(nowT T s).txt=x:=by simpa[isT]using h
 rcases gC this hx with h|h<;>omega
theorem Ok.skip(hT:cN src T)(h:Ok src T s F)(hk:(nowT T s).kind≠0):Ok src T {s with i:=s.i+1} F:=⟨kN hT h.lt hk,h.good,h.fo,by have:=h.cnt;simp;omega⟩
theorem TrR.skip(hT:cN src T){f:Unit→M α}(h:Ok src T s F)(hk:(nowT T s).kind≠0)(H:Ok src T {s with i:=s.i+1} F→TrR ((f ()) {s with i:=s.i+1}) Q):TrR ((dS T>>=f) s) Q:=by
 refine TrR.bind ?_;unfold TrR dS;rw[if_pos (kN hT h.lt hk)];exact H (h.skip hT hk)
theorem TrR.take(hT:cN src T){f:Bool→M α}{x:List UInt8}(h:Ok src T s F)(hx:x≠[])(H1:isT T s x=true→Ok src T {s with i:=s.i+1} F→TrR ((f true) {s with i:=s.i+1}) Q)(H2:isT T s x=false→TrR ((f false) s) Q):TrR ((eY T x>>=f) s) Q:=by
 refine TrR.bind ?_;unfold TrR eY;cases hi:isT T s x
 ·exact H2 hi
 ·have hk:=rQ hi hx;simp only[if_true,kN hT h.lt hk];exact H1 hi (h.skip hT hk)
theorem TrR.want(hT:cN src T){f:Nat→M α}{x:List UInt8}(h:Ok src T s F)(hx:x≠[])(H1:isT T s x=true→Ok src T {s with i:=s.i+1} F→(nowT T s).fr≤src.length→TrR ((f (nowT T s).fr) {s with i:=s.i+1}) Q):TrR ((dA T x>>=f) s) Q:=by
 refine TrR.bind ?_;unfold TrR dA;cases hi:isT T s x
 ·trivial
 ·have hk:=rQ hi hx;simp only[if_true,kN hT h.lt hk];exact H1 hi (h.skip hT hk) (hT.tk _ (dY h.lt)).fr
theorem TrR.name(hT:cN src T){f:List UInt8→M α}(h:Ok src T s F)(H1:(nowT T s).kind=1→nmB (nowT T s).text=true→lE src (nowT T s).fr (nowT T s).text→Ok src T {s with i:=s.i+1} F→TrR ((f (nowT T s).text) {s with i:=s.i+1}) Q):TrR ((gW T>>=f) s) Q:=by
 refine TrR.bind ?_;unfold TrR gW;by_cases hk:(nowT T s).kind=1
 ·have hk0:(nowT T s).kind≠0:=by omega
  have ht:=(hT.tk _ (dY h.lt)).name hk;simp only[hk,if_true,kN hT h.lt hk0];exact H1 hk ht.1 ht.2 (h.skip hT hk0)
 ·simp only[hk,if_false]
theorem Ok.add(hT:cN src T){x:Nd}(h:Ok src T s (x.kids++F))(hg:nK src s.ns x)(hc:s.ns.length+1≤8*s.i+4):Ok src T {s with ns:=s.ns++[x]} (s.ns.length::F):=
 ⟨h.lt,h.good.add hg,h.fo.add,by simp;omega⟩
theorem addN_ok(hT:cN src T){x:Nd}(h:Ok src T s (x.kids++F)):addN x s=.ok s.ns.length {s with ns:=s.ns++[x]}:=by
 have h1:=h.fo.len;have h2:=h.lt;have h3:=hT.big;have h4:=h.cnt;simp only[aC]at h1;unfold addN most;rw[if_pos (by omega)]
theorem TrR.add (hT:cN src T) {f:Nat→M α} {x:Nd} (h:Ok src T s (x.kids++F)) (hg:nK src s.ns x) (hc:s.ns.length+1≤8*s.i+4)
 (H:Ok src T {s with ns:=s.ns++[x]} (s.ns.length::F)→s.ns<+:s.ns++[x]→(s.ns++[x])[s.ns.length]? =some x→TrR ((f s.ns.length) {s with ns:=s.ns++[x]}) Q):TrR ((addN x>>=f) s) Q:=by
 refine TrR.bind ?_;unfold TrR;rw[addN_ok hT h];exact H (h.add hT hg hc) (List.prefix_append _ _) (by simp)
theorem TrR.addL (hT:cN src T) {x:Nd} {Q:Nat→St→Prop} (h:Ok src T s (x.kids++F)) (hg:nK src s.ns x) (hc:s.ns.length+1≤8*s.i+4)
 (H:Ok src T {s with ns:=s.ns++[x]} (s.ns.length::F)→s.ns<+:s.ns++[x]→(s.ns++[x])[s.ns.length]? =some x→Q s.ns.length {s with ns:=s.ns++[x]}):TrR ((addN x) s) Q:=by
 unfold TrR;rw[addN_ok hT h];exact H (h.add hT hg hc) (List.prefix_append _ _) (by simp)
theorem TrR.pos{f:Nat→M α}{n:Nat}{p:Nat→Bool}(h:Ok src T s F)(hk:hasK s.ns n p)(H:∀q,q≤src.length→TrR ((f q) s) Q):TrR ((posM n>>=f) s) Q:=by
 obtain⟨y,hy,_⟩:=hk;refine TrR.bind ?_;unfold TrR posM;simp only[hy];exact H _ (h.good n y hy).pos
theorem TrR.target{f:Bool→M α}{n:Nat}{p:Nat→Bool}(h:Ok src T s F)(hk:hasK s.ns n p)(H1:hasK s.ns n tgtK→TrR ((f true) s) Q)(H2:TrR ((f false) s) Q):TrR ((kF n>>=f) s) Q:=by
 obtain⟨y,hy,_⟩:=hk;refine TrR.bind ?_;unfold TrR kF;simp only[hy];cases hb:(y.kind==6||y.kind==17||y.kind==18)
 ·exact H2
 ·exact H1 ⟨y,hy,hb⟩
theorem TrR.nd{f:Nd→M α}{n:Nat}{y:Nd}(hy:s.ns[n]? =some y)(H:TrR ((f y) s) Q):TrR ((ndM n>>=f) s) Q:=by
 refine TrR.bind ?_;unfold TrR ndM;simp only[hy];exact H
theorem TrR.endS(hT:cN src T){f:Unit→M α}(h:Ok src T s F)(H:∀s',s'.ns=s.ns→s.i≤s'.i→Ok src T s' F→TrR ((f ()) s') Q):TrR ((endT T>>=f) s) Q:=by
 refine TrR.bind ?_;unfold TrR endT;cases hi:isT T s [59]
 ·simp only[aI,if_false];split
  ·rename_i h1;split at h1
   ·cases h1;exact H _ rfl (bA _) h
   ·cases h1
  ·trivial
  ·rename_i h1;split at h1<;>cases h1
 ·have hk:=rQ hi (by simp);simp only[if_true,kN hT h.lt hk];exact H _ rfl (by simp) (h.skip hT hk)
end
end
end Go.Proofs.YtfmbepijhnaklaaGreatDoor

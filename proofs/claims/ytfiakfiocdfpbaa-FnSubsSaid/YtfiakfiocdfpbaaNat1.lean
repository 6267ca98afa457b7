/- Functions of the library that are told by what they compute. -/
import Derived.Test.YtfiakfiocdfpbaaEngD
import Derived.Test.YtfiakfiocdfpbaaNat0
import Derived.Below
set_option linter.unusedSimpArgs false
set_option linter.unusedVariables false
namespace Go.Proofs.Ytfiakfiocdfpbaa.VS
open Go.RowKit (Below)
variable {P:Program} {fid:Nat->FuncId}
theorem cell_below{w w':World}{B:Nat}(h:Below B w w')(ad:Addr)(hb:ad.block<B):w'.cell? ad=w.cell? ad:=by
 unfold World.cell?;rw[h.block _ hb]
theorem qqf{N:Id->Prop}{g:Gh}{w w':World}{v:DV}{u:Value}(hc:Core fid g w [] Ids.none)(hb:Below w.heap.size w w')(hv:VR g w' v u):Post fid N g w Ids.none ⟨.d v,Ids.none,[]⟩ u g w' where
 val:= .d _ _ hv
 core:=⟨fun i b h=>by obtain⟨cs,arr,e,h1,_⟩:=hc.box i b h;simp at h1,hc.inj,fun a h=>by simp[Ids.none]at h,fun a a' b x x' h=>by simp[Ids.none]at h,fun b h=>hc.K0 b (Nat.le_trans hb.size h)⟩
 boxes:= .refl g w
 step:=⟨hb.os,hb.tape,hb.output,hb.size,⟨fun _=>Nat.le_refl _,fun ad h=>cell_below hb ad (by
  rcases Nat.lt_or_ge ad.block w.heap.size with h1|h1
  ·exact h1
  ·rw[hc.K0 _ h1]at h;omega),fun _ _ h=>h⟩,fun b hlt _ _=>⟨hb.block b hlt,rfl⟩,fun a h=>absurd rfl h,fun a b h=>by simp[Ids.none]at h,fun b c e z h=>⟨c,by rw[hb.block b (Array.getElem?_eq_some_iff.1 h).1];exact h,rfl⟩⟩
def qF0(P:Program)(f:FuncId):Prop:=
 (∀(a:Option Addr) (c:Nat) (sep:ByteArray) (w:World),Calls P f #[.slice a 0 c,.string sep] w fun e w'=>e= .returned (.string ⟨#[]⟩)/\w'=w)/\
 ∀(bk o c:Nat) (xs:List ByteArray) (sep:ByteArray) (w:World),(∀(j:Nat) x,xs[j]?=some x->w.cell? ⟨bk,o+j,none⟩=some (.string x))->bk<w.heap.size->xs.length<=140737488355328->xs.length<=c->
  (joinL xs sep).length<=140737488355328->Calls P f #[.slice (some ⟨bk,o,none⟩) xs.length c,.string sep] w fun e w'=>e= .returned (.string (qwE xs sep))/\Below w.heap.size w w'
theorem qJP{k:Nat}(hf:qCY P (fid k))(hj:qF0 P (fid k)):qxA P fid k (qxD qmn):=by
 refine⟨hf,fun p args v A hd h g w us hus hrel hcore hfresh=> ?_⟩;unfold qxD at h;obtain⟨ds,hds,h⟩:=Option.bind_eq_some_iff.1 h;obtain⟨v',hv,h⟩:=Option.map_eq_some_iff.1 h
 match ds,hds,hv with
 | [.sl t xs,.str sep],hds,hv=>
  have hargs:=qbo hds;simp only[List.map_cons,List.map_nil]at hargs;subst hargs;obtain⟨u0,u1,rfl⟩:∃u0 u1,us= #[u0,u1]:=by
   obtain⟨l⟩:=us
   match l,hus with
   | [u0,u1],_=>exact⟨u0,u1,rfl⟩
  have r0:=hrel 0 _ u0 rfl rfl;have r1:=hrel 1 _ u1 rfl rfl;cases r1 with
  |d _ _ r1=>
  cases r1;unfold qmn at hv;obtain⟨l,hl,hv⟩:=Option.bind_eq_some_iff.1 hv;split at hv
  case isFalse=>simp at hv
  rename_i hle;simp only[Option.some.injEq]at hv;subst hv;simp only[qQA,Prod.mk.injEq]at h;obtain⟨rfl,rfl⟩:=h;have hxs:=qkl hl;cases r0 with
  |d _ _ r0=>
  have none_case:∀(a:Option Addr) (c:Nat),xs=[]->u0= .slice a 0 c->Calls P (fid k) #[u0,.string sep] w fun e w'=>∃u g',e= .returned u/\Post fid (from_ p 0) g w Ids.none ⟨.d (.str (qwE l sep)),Ids.none,[]⟩ u g' w':=by
   intro a c hx hu;subst hu;have hl0:l=[]:=by rw[hx]at hxs;cases l with|nil=>rfl|cons _ _=>simp at hxs
   subst hl0;refine(hj.1 a c sep w).mono ?_
   rintro e w' ⟨rfl,rfl⟩
   exact⟨_,g,rfl,qqf hcore (Below.refl _ _) (.str _)⟩
  cases r0 with
  |nil=>exact none_case none 0 rfl rfl
  |row _ _ ad c s U ht hlen hm hcell hK hcs hvs hown=>
   cases hx:xs with
   |nil=>subst hx;exact none_case (some ad) c rfl rfl
   |cons x r=>
    have hs:s=1:=by
     have:=(hcs 0 x (by rw[hx];rfl)).1;have hx0:xs[0]?=some x:=by rw[hx];rfl
     rw[hxs]at hx0;obtain⟨y,_,rfl⟩:=List.mem_map.1 (List.mem_of_getElem? hx0);simpa[DV.cells]using this.symm
    subst hs;have hpos:0<xs.length:=by rw[hx];simp
    have hsp:ad.spot=none:=by
     have:=hcell 0 (by omega);unfold World.cell? at this;simp only[Addr.add,if_true]at this;split at this
     ·split at this
      ·simp at this
      ·rename_i h1;simpa using h1
     ·simp at this
    obtain⟨bk,o,sp⟩:=ad;simp only at hsp;subst hsp;have hlx:xs.length=l.length:=by rw[hxs];simp
    have hbk:bk<w.heap.size:=by
     rcases Nat.lt_or_ge bk w.heap.size with h1|h1
     ·exact h1
     ·have:=hcore.K0 bk h1
      rcases hK with h2|h2
      ·omega
      ·simp only at h2;omega
    rw[<-hx];rw[hlx]at hlen⊢
    refine(hj.2 bk o c l sep w (fun j x hjx=> ?_) hbk hle.1 hlen hle.2).mono ?_
    ·have hjl:j<l.length:=(List.getElem?_eq_some_iff.1 hjx).1
     have h1:=hcell j (by omega);have hxj:xs[j]?=some (.str x):=by rw[hxs];simp[hjx]
     have h2:=hvs j (.str x) 0 (.str x) hxj rfl;simp only[Nat.mul_one,Nat.add_zero]at h2;generalize U j=y at h1 h2;cases h2;have:(⟨bk,o,none⟩:Addr).add j=⟨bk,o+j,none⟩:=by unfold Addr.add;split<;>simp_all
     rw[<-this];exact h1
    ·rintro e w' ⟨rfl,hb⟩
     exact⟨_,g,rfl,qqf hcore hb (.str _)⟩
end Go.Proofs.Ytfiakfiocdfpbaa.VS

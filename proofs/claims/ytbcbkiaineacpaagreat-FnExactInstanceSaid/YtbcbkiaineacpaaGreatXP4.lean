/- Contracts of the program's functions on the evaluator without names, and plain lemmas: part 4. -/
import Derived.Test.YtbcbkiaineacpaaGreatXP3
set_option linter.unusedSimpArgs false
set_option linter.unusedVariables false
namespace Go.Proofs.YtbcbkiaineacpaaGreat.VS
theorem qix(u:List Bd)(i:Nat)(h:i<u.length):u.take (i+1)=u.take i++[bAt u i]:=by
 rw[List.take_add_one,List.getElem?_eq_getElem h,qcj h];rfl
def qcr(_:Unit)(i:Nat):Unit⊕Nat:= .inl ()
theorem qkN:∀(k i:Nat),runN qcr k () i= .inl ()
 |0,i=>rfl
 |k+1,i=>by simp only[runN,qcr];exact qkN k (i+1)
theorem qyp(u:List Bd)(hu:small u):qac XV 266 [.d (binds .sub u)] []=some (.d (binds U u),[]):=by
 rw[qah XV _ _ _ qK8 rfl qzH rfl];obtain⟨hu,bu⟩:=hu;have h:=qal (X:=XV) (T:=XV.lin 266) (L:=0) (live:=[3,7,8,9]) (b:=qwA) (n:=u.length) (γ:=Nat) (st:=fun(_:Unit) i=>⟨[(3,.d (.sl U ((u.take i).map (Bd.enc U)))),(7,.d (binds .sub u)),(8,.d (.int .i64 u.length)),(9,.d (.int .i64 i))],[]⟩) (step:=qcr)
  (F:=fun _=>(.exit 0,⟨[(3,.d (.sl U ((u.take u.length).map (Bd.enc U)))),(7,.d (binds .sub u)),(8,.d (.int .i64 u.length)),(9,.d (.int .i64 u.length)),(10,.d (.bool false))],[]⟩)) (R:=fun _=>(.ret,⟨[],[]⟩))
  (fun a=>⟨by simp,by simp[qwA,qrn,qrm,qrl,qrk,qrj,qwk,qri,qrh]⟩)
  (fun a i hi=>by
   have hw:=qai (n:=i) (by omega);have hc:=qhu (bAt u i).t (bu i hi);have ht:=qcj hi;have a1:=qsU (u.take i) (bAt u i) (by simp;omega);have hsn:=qix u i hi;rw[<-hsn]at a1;generalize hR2:(u.take (i+1)).map (Bd.enc U)=R2 at a1;generalize (u.take i).map (Bd.enc U)=R1 at*
   generalize bAt u i=b at*
   unfold qcr;exact⟨_,by simp[qwA,qrn,qrm,qrl,qrk,qrj,qwk,qri,qrh,hi,hw,cut,ht,hc,a1,splice,qae,qaf,qag,qaB,qaj];rfl,by simp[qad,qab,<-hR2]⟩)
  u.length () 0 ⟨[(3,.d (.sl U ((u.take 0).map (Bd.enc U)))),(7,.d (binds .sub u)),(8,.d (.int .i64 u.length)),(9,.d (.int .i64 0))],[]⟩ (by omega) (by simp[qad,qab])
 rw[qkN,List.take_length,List.take_zero]at h;simp only[qJS,List.map_nil]at h;simp[qK8,qrn,qrm,qrl,qrk,qrj,qwk,qri,qrh];rw[h];simp[qK8,qrn,qrm,qrl,qrk,qrj,qwk,qri,qrh]
theorem qCk(u:List Bd)(hu:small u):qac XV 250 [.d (binds .sub u)] []=some (.d (binds U u),[]):=by
 rw[qah XV _ _ _ qLa rfl qzM rfl];obtain⟨hu,bu⟩:=hu;have h:=qal (X:=XV) (T:=XV.lin 250) (L:=0) (live:=[0,3,4]) (b:=qwB) (n:=u.length) (γ:=Nat) (st:=fun(_:Unit) i=>⟨[(0,.d (binds .sub u)),(3,.d (.sl U ((u.take i).map (Bd.enc U)))),(4,.d (.int .i64 i))],[]⟩) (step:=qcr)
  (F:=fun _=>(.exit 0,⟨[(0,.d (binds .sub u)),(3,.d (.sl U ((u.take u.length).map (Bd.enc U)))),(4,.d (.int .i64 u.length)),(9,.d (.bool false))],[]⟩)) (R:=fun _=>(.ret,⟨[],[]⟩))
  (fun a=>⟨by simp,by simp[qwB,qrt,qrs,qrr,qrq,qwl,qrp,qro]⟩)
  (fun a i hi=>by
   have hw:=qai (n:=i) (by omega);have hc:=qgE (bAt u i).t (bu i hi);have ht:=qcj hi;have a1:=qsU (u.take i) (bAt u i) (by simp;omega);have hsn:=qix u i hi;rw[<-hsn]at a1;generalize hR2:(u.take (i+1)).map (Bd.enc U)=R2 at a1;generalize (u.take i).map (Bd.enc U)=R1 at*
   generalize bAt u i=b at*
   unfold qcr;exact⟨_,by simp[qwB,qrt,qrs,qrr,qrq,qwl,qrp,qro,hi,hw,cut,ht,hc,a1,splice,qae,qaf,qag,qaB,qaj];rfl,by simp[qad,qab,<-hR2]⟩)
  u.length () 0 ⟨[(0,.d (binds .sub u)),(3,.d (.sl U ((u.take 0).map (Bd.enc U)))),(4,.d (.int .i64 0))],[]⟩ (by omega) (by simp[qad,qab])
 rw[qkN,List.take_length,List.take_zero]at h;simp only[qJV,List.map_nil]at h;simp[qLa,qrt,qrs,qrr,qrq,qwl,qrp,qro];rw[h];simp[qLa,qrt,qrs,qrr,qrq,qwl,qrp,qro]
theorem qqn(xs:List DV)(x:DV)(g:Tag)(h:(xs.length+1)*48<=140737488355328)(h2:∀y,y∈xs->y.cells.length=4)(hx:x.cells.length=4)(hc:x.cells.all DV.isCell=true):qaX 4 48 (.sl U xs) (.sl g [x])=some (.sl U (xs++[x])):=by
 have h1:xs.all (fun e=>decide (e.cells.length=4))=true:=by
  rw[List.all_eq_true];intro y hy;simpa using h2 y hy
 unfold qaX;simp only;rw[if_pos (by simp[hx];simpa using hc)];simp only[List.isEmpty_cons,Bool.false_eq_true,if_false];rw[if_pos ⟨by simpa using h,trivial,h1⟩]
def qFP(u:List Bd)(b:Bd)(k i:Nat):List DV:=if i=k then [b.enc U]else []
def qka(u:List Bd)(b:Bd)(k:Nat):Nat->List DV
 |0=>[]
 |i+1=>(qka u b k i++qFP u b k i)++[(bAt u i).enc .sub]
theorem qqq(u:List Bd)(b:Bd)(k:Nat):∀i,(qka u b k i).length<=2*i
 |0=>Nat.le_refl _
 |i+1=>by
  have:=qqq u b k i;unfold qka qFP;split<;>simp<;>omega
theorem qi4(u:List Bd)(b:Bd)(k:Nat):∀i y,y∈qka u b k i->y.cells.length=4
 |0,y,h=>by simp[qka]at h
 |i+1,y,h=>by
  unfold qka qFP at h;simp only[List.mem_append,List.mem_singleton]at h;rcases h with(h|h)|h
  ·exact qi4 u b k i y h
  ·split at h
   ·simp at h;subst h;rfl
   ·simp at h
  ·subst h;rfl
theorem qwN(u:List Bd)(b:Bd)(k:Nat):∀i,i<=u.length->(qka u b k i).map DV.clr=(if k<i then u.take k++b::(u.take i).drop k else u.take i).map (Bd.enc .sub)
 |0,_=>by simp[qka]
 |i+1,hi=>by
  have ih:=qwN u b k i (by omega);have hs:=qix u i (by omega);unfold qka qFP;rw[List.map_append,List.map_append,ih]
  by_cases c1:i=k
  ·subst c1
   rw[if_neg (Nat.lt_irrefl i),if_pos rfl,if_pos (Nat.lt_succ_self i),hs];have:(List.take i u++[bAt u i]).drop i=[bAt u i]:=by
    rw[List.drop_append_of_le_length (by simp;omega),List.drop_of_length_le (by simp;omega)];rfl
   rw[this];simp
  ·rw[if_neg c1]
   by_cases c2:k<i
   ·rw[if_pos c2,if_pos (by omega),hs,List.drop_append_of_le_length (by simp;omega)]
    simp
   ·rw[if_neg c2,if_neg (by omega),hs]
    simp
theorem qGK(u:List Bd)(v:Int)(i:Nat)(hi:i<u.length)(h:i<qmA u v):¬(bAt u i).v>v:=by
 unfold qmA at h;have:=List.not_of_lt_findIdx h;rw[qcj hi]at this;simpa using this
theorem qGL(u:List Bd)(v:Int)(h:qmA u v<u.length):(bAt u (qmA u v)).v>v:=by
 unfold qmA at h⊢
 have:=List.findIdx_getElem (w:=h);rw[qcj h]at this;simpa using this
theorem qv4(u:List Bd)(v:Int)(t:T)(hu:u.length<=549755813888)(ht:t.inner<=1099511627776):
 ∃xs,xs.map DV.clr=(qgT u v t).map (Bd.enc .sub)/\qac XV 313 [.d (binds .sub u),.d (.int .i64 v),.d (t.enc .sub)] []=some (.d (.sl U xs),[]):=by
 have hcp:=qgE t ht;obtain⟨f,w,ks⟩:=t;obtain⟨k,hk⟩:∃k,k=qmA u v:=⟨_,rfl⟩;refine⟨qka u ⟨v,.node f w ks⟩ k u.length++qFP u ⟨v,.node f w ks⟩ k u.length,?_,?_⟩
 ·have hkl:k<=u.length:=by rw[hk];exact List.findIdx_le_length
  rw[List.map_append,qwN u _ k u.length (Nat.le_refl _)];unfold qgT qFP;rw[<-hk,List.take_length]
  by_cases c:k<u.length
  ·rw[if_pos c,if_neg (by omega)];simp
  ·have:k=u.length:=by omega
   subst this;rw[if_neg c,if_pos rfl];simp
 rw[qah XV _ _ _ qIJ rfl qzv rfl];have h:=qal (X:=XV) (T:=XV.lin 313) (L:=1) (live:=[0,1,5,7,8,9]) (b:=qo2) (n:=u.length) (γ:=Nat) (st:=fun(_:Unit) i=>⟨[(0,.d (binds .sub u)),(1,.d (.int .i64 v)),(5,.ptr 0 0),(7,.d (.sl U (qka u ⟨v,.node f w ks⟩ k i))),(8,.d (.bool (decide (k<i)))),(9,.d (.int .i64 i))],[some [.d (.int .i64 f),.d (.int .i64 w),.d (qaa .sub ks)]]⟩) (step:=qcr)
  (F:=fun _=>(.exit 0,⟨[(0,.d (binds .sub u)),(1,.d (.int .i64 v)),(5,.ptr 0 0),(7,.d (.sl U (qka u ⟨v,.node f w ks⟩ k u.length))),(8,.d (.bool (decide (k<u.length)))),(9,.d (.int .i64 u.length)),(14,.d (.bool false))],[some [.d (.int .i64 f),.d (.int .i64 w),.d (qaa .sub ks)]]⟩)) (R:=fun _=>(.ret,⟨[],[]⟩))
  (fun a=>⟨by simp,by simp[qo2,qjw,qjv,qju,qjt,qjs,qjq,qjp,qjo,qjn,qjr,qgt,qgs,qgr]⟩)
  (fun a i hi=>by
   have hw:=qai (n:=i) (by omega);have hb:=qcj hi;have hln:=qqq u ⟨v,.node f w ks⟩ k i;have hce:=qi4 u ⟨v,.node f w ks⟩ k i;have a1:=qqn (qka u ⟨v,.node f w ks⟩ k i) ((bAt u i).enc .sub) U (by omega) hce rfl (by simp[qae,qaf]);have a2:qaX 4 48 (.sl U (qka u ⟨v,.node f w ks⟩ k i)) (.sl U [.agg [.int .i64 v,.int .i64 f,.int .i64 w,qaa U ks]])=some (.sl U (qka u ⟨v,.node f w ks⟩ k i++[(⟨v,.node f w ks⟩:Bd).enc U])):=qqn (qka u ⟨v,.node f w ks⟩ k i) ((⟨v,.node f w ks⟩:Bd).enc U) U (by omega) hce rfl (by simp[qae,qaf]);have a3:=qqn (qka u ⟨v,.node f w ks⟩ k i++[(⟨v,.node f w ks⟩:Bd).enc U]) ((bAt u i).enc .sub) U (by simp;omega) (fun y hy=>by
    rcases List.mem_append.1 hy with h|h
    ·exact hce y h
    ·simp at h;subst h;rfl) rfl (by simp[qae,qaf])
   have hnx:qka u ⟨v,.node f w ks⟩ k (i+1)=(qka u ⟨v,.node f w ks⟩ k i++qFP u ⟨v,.node f w ks⟩ k i)++[(bAt u i).enc .sub]:=rfl;unfold qFP at hnx;generalize hX2:qka u ⟨v,.node f w ks⟩ k (i+1)=X2 at*
   generalize qka u ⟨v,.node f w ks⟩ k i=X1 at*
   unfold qcr
   by_cases c1:k<i
   ·have c2:¬i=k:=by omega
    have c3:k<i+1:=by omega
    rw[if_neg c2,List.append_nil]at hnx;rw[<-hnx]at a1;exact⟨_,by simp[qo2,qjw,qjv,qju,qjt,qjs,qjq,qjp,qjo,qjn,qjr,qgt,qgs,qgr,hi,hw,cut,hb,c1,a1,splice];rfl,by simp[qad,qab,hX2,c3]⟩
   ·by_cases c2:i=k
    ·have hgt:(bAt u i).v>v:=by rw[c2,hk];exact qGL u v (by omega)
     rw[if_pos c2]at hnx;rw[<-hnx]at a3;have c3:k<i+1:=by omega
     exact⟨_,by simp[qo2,qjw,qjv,qju,qjt,qjs,qjq,qjp,qjo,qjn,qjr,qgt,qgs,qgr,hi,hw,cut,hb,c1,hgt,hcp,a2,a3,splice];rfl,by simp[qad,qab,hX2,c3]⟩
    ·have hle:=qGK u v i hi (by omega)
     rw[if_neg c2,List.append_nil]at hnx;rw[<-hnx]at a1;have c3:¬k<i+1:=by omega
     exact⟨_,by simp[qo2,qjw,qjv,qju,qjt,qjs,qjq,qjp,qjo,qjn,qjr,qgt,qgs,qgr,hi,hw,cut,hb,c1,hle,a1,splice];rfl,by simp[qad,qab,hX2,c3]⟩)
  u.length () 0 ⟨[(0,.d (binds .sub u)),(1,.d (.int .i64 v)),(5,.ptr 0 0),(7,.d (.sl U [])),(8,.d (.bool false)),(9,.d (.int .i64 0))],[some [.d (.int .i64 f),.d (.int .i64 w),.d (qaa .sub ks)]]⟩ (by omega) (by simp[qad,qab,qka])
 rw[qkN]at h;simp only[qJK]at h;have hln:=qqq u ⟨v,.node f w ks⟩ k u.length;have a2:qaX 4 48 (.sl U (qka u ⟨v,.node f w ks⟩ k u.length)) (.sl U [.agg [.int .i64 v,.int .i64 f,.int .i64 w,qaa U ks]])=some (.sl U (qka u ⟨v,.node f w ks⟩ k u.length++[(⟨v,.node f w ks⟩:Bd).enc U])):=qqn (qka u ⟨v,.node f w ks⟩ k u.length) ((⟨v,.node f w ks⟩:Bd).enc U) U (by omega) (qi4 u ⟨v,.node f w ks⟩ k u.length) rfl (by simp[qae,qaf]);have hkl:k<=u.length:=by rw[hk];exact List.findIdx_le_length
 simp[qIJ,qjw,qjv,qju,qjt,qjs,qjq,qjp,qjo,qjn,qjr,qgt,qgs,qgr];rw[h];unfold qFP;generalize qka u ⟨v,.node f w ks⟩ k u.length=X1 at*
 by_cases c:k<u.length
 ·have c2:¬u.length=k:=by omega
  simp[qIJ,qjw,qjv,qju,qjt,qjs,qjq,qjp,qjo,qjn,qjr,qgt,qgs,qgr,c,c2]
 ·have c2:u.length=k:=by omega
  simp[qIJ,qjw,qjv,qju,qjt,qjs,qjq,qjp,qjo,qjn,qjr,qgt,qgs,qgr,c,c2,hcp,a2,splice]
def qw5(t:T)(b:Bool):Bool:=b||decide (12<t.kids.length)
mutual
def qem:T->Bool
 | .node f v ks=>decide (12<ks.length)||qjd ks
def qjd:List T->Bool
 | []=>false
 |t::ts=>qem t||qjd ts
end
mutual
theorem qsg:∀(t:T) (b:Bool),T.fold qw5 t b=(b||qem t)
 | .node f v ks,b=>by
  simp only[T.fold,qem,qoM ks,qw5,T.kids];rw[Bool.or_assoc];rfl
theorem qoM:∀(ts:List T) (b:Bool),T.folds qw5 ts b=(b||qjd ts)
 | [],b=>by simp[T.folds,qjd]
 |t::ts,b=>by
  simp only[T.folds,qjd,qsg t,qoM ts];rw[Bool.or_assoc]
end
theorem qui(t:T)(ht:t.inner<=1099511627776):qac XV 317 [.d (t.enc .sub)] []=some (.d (.bool (qem t)),[]):=by
 rw[qah XV _ _ _ qLY rfl qzr rfl];have key:∀(b:Bool),qac XV 25 [.d (t.enc .sub),.fn 330 [.ptr 1 0]] ([some [.d (.int .i64 t.f),.d (.int .i64 t.v),.d (qaa .sub t.kids)],some [.d (.bool b)]]++[])=some (.d (.tup []),[some [.d (.int .i64 t.f),.d (.int .i64 t.v),.d (qaa .sub t.kids)],some [.d (.bool (T.fold qw5 t b))]]++[]):=fun b=>
  quy (fun b:Bool=>[some [.d (.int .i64 t.f),.d (.int .i64 t.v),.d (qaa .sub t.kids)],some [.d (.bool b)]]) qw5 330 [.ptr 1 0] 2 (fun _=>rfl) (fun n hn=>by simp;omega) rfl (by simp) (fun x b r=>by
   rw[qah XV _ _ _ qII rfl qzn rfl];obtain⟨xf,xv,xk⟩:=x;unfold qw5;cases b
   ·by_cases h1:12<xk.length
    ·have h2:(12:Int)<xk.length:=by omega
     simp[qII,qvk,qvj,h1,h2,splice]
    ·have h2:¬(12:Int)<xk.length:=by omega
     simp[qII,qvk,qvj,h1,h2,splice]
   ·simp[qII,qvk,qvj,splice]) t ht b []
 have h:=key false;rw[qsg,Bool.false_or]at h;simp only[List.append_nil]at h;obtain⟨f,v,ks⟩:=t;simp only[T.qaW,T.qdR,T.qaQ]at h;simp[qLY,qHd,qHc,qHb,qHa,h,splice]
theorem qiv:∀ks:List T,qjd ks=ks.any qem
 | []=>rfl
 |t::ts=>by simp only[qjd,List.any_cons,qiv ts]
theorem qh6(q:Nat->Bool)(k i:Nat):(qau q k i).isSome=true↔∃j,i<=j/\j<i+k/\q j=true:=by
 constructor
 ·intro h
  obtain⟨j,hj⟩:=Option.isSome_iff_exists.1 h;exact⟨j,qci q k i j hj⟩
 ·induction k generalizing i with
  |zero=>rintro⟨j,h1,h2,_⟩;omega
  |succ k ih=>
   rintro⟨j,h1,h2,h3⟩
   simp only[qau];split
   ·rfl
   ·rename_i hq
    refine ih (i+1) ⟨j,?_,by omega,h3⟩;rcases Nat.eq_or_lt_of_le h1 with rfl|h
    ·exact absurd h3 hq
    ·exact h
theorem qAb(ks:List T):(qau (fun i=>qem (tAt ks i)) ks.length 0).isSome=qjd ks:=by
 rw[qiv,Bool.eq_iff_iff,qh6,List.any_eq_true];constructor
 ·rintro⟨j,_,h2,h3⟩
  exact⟨_,qav (by omega),h3⟩
 ·rintro⟨x,hx,h⟩
  obtain⟨j,hj,rfl⟩:=List.getElem_of_mem hx;exact⟨j,Nat.zero_le _,by omega,by rw[<-qan hj];exact h⟩
theorem qCi(f v:Int)(ks:List T)(hl:ks.length<=1099511627776)(hrec:∀t,t∈ks->qac XV 309 [.d (t.enc .sub)] []=some (.d (.bool (qem t)),[])):
 qac XV 309 [.d ((T.node f v ks).enc .sub)] []=some (.d (.bool (qem (.node f v ks))),[]):=by
 rw[qah XV _ _ _ qGY rfl qzx rfl];have h:=qal (X:=XV) (T:=XV.lin 309) (L:=1) (live:=[1,3]) (b:=qsD) (n:=ks.length) (γ:=Nat) (st:=fun(_:Unit) i=>⟨[(1,.ptr 0 0),(3,.d (.int .i64 i))],[some [.d (.int .i64 f),.d (.int .i64 v),.d (qaa .sub ks)]]⟩) (step:=qb8 fun i=>qem (tAt ks i))
  (F:=fun _=>(.exit 0,⟨[(1,.ptr 0 0),(3,.d (.int .i64 ks.length)),(8,.d (.bool false))],[some [.d (.int .i64 f),.d (.int .i64 v),.d (qaa .sub ks)]]⟩)) (R:=fun _=>(.ret,⟨[(2,.d (.bool true))],[some [.d (.int .i64 f),.d (.int .i64 v),.d (qaa .sub ks)]]⟩))
  (fun a=>⟨by simp,by simp[qsD,qjD,qjC,qjB,qjz,qjy,qjA,qjx]⟩)
  (fun a i hi=>by
   have hw:=qai (n:=i) (by omega);have hc:=hrec _ (qav hi);unfold qb8
   by_cases hq:qem (tAt ks i)=true
   ·rw[if_pos hq];rw[hq]at hc
    exact⟨by simp,by simp[qsD,qjD,qjC,qjB,qjz,qjy,qjA,qjx,hi,hw,cut,qan hi,hc]⟩
   ·rw[if_neg hq]
    have hq':qem (tAt ks i)=false:=by simpa using hq
    rw[hq']at hc;exact⟨_,by simp[qsD,qjD,qjC,qjB,qjz,qjy,qjA,qjx,hi,hw,cut,qan hi,hc];rfl,by simp[qad,qab]⟩)
  ks.length () 0 ⟨[(1,.ptr 0 0),(3,.d (.int .i64 0))],[some [.d (.int .i64 f),.d (.int .i64 v),.d (qaa .sub ks)]]⟩ (by omega) (by simp[qad,qab])
 rw[qqw]at h;simp only[qJN]at h;have hwf:=qAb ks;simp[qGY,qjD,qjC,qjB,qjz,qjy,qjA,qjx];rw[h];simp only[qem];cases hq:qau (fun i=>qem (tAt ks i)) ks.length 0 with
 |some j=>
  rw[hq]at hwf;rw[<-hwf];simp[qGY,qjD,qjC,qjB,qjz,qjy,qjA,qjx]
 |none=>
  rw[hq]at hwf;rw[<-hwf]
  by_cases h1:12<ks.length
  ·have h2:(12:Int)<ks.length:=by omega
   simp[qGY,qjD,qjC,qjB,qjz,qjy,qjA,qjx,h1,h2]
  ·have h2:¬(12:Int)<ks.length:=by omega
   simp[qGY,qjD,qjC,qjB,qjz,qjy,qjA,qjx,h1,h2]
theorem qr0(t:T)(ht:t.inner<=1099511627776):qac XV 309 [.d (t.enc .sub)] []=some (.d (.bool (qem t)),[]):=by
 match t,ht with
 | .node f v ks,ht=>
  simp only[T.inner]at ht;exact qCi f v ks (by omega) fun s hs=>qr0 s (by have:=T.qaA hs;omega)
termination_by t
decreasing_by
 simp_wf
 have:=List.sizeOf_lt_of_mem hs;omega
theorem qAr(m i:Nat)(hi:i<64):qe1 .shr .i64 (m:Int) (i:Int)=some (.int .i64 ((m/2^i:Nat):Int)):=by
 unfold qe1;have h0:¬((i:Int)<0):=by omega
 have hb:IntKind.i64.bits=64:=rfl;have hm:min i 64=i:=by omega
 simp only[if_neg h0,Int.toNat_natCast,hb,hm,Option.some.injEq,DV.int.injEq,true_and];rw[Int.fdiv_eq_ediv_of_nonneg _ (by exact Int.pow_nonneg (by omega)),Int.natCast_ediv,Int.natCast_pow];rfl
theorem and_one(a:Nat)(ha:a<4611686018427387904):qe1 .and .i64 (a:Int) 1=some (.int .i64 ((a%2:Nat):Int)):=by
 unfold qe1 bits;have h1:BitVec.ofInt IntKind.i64.bits (a:Int)=BitVec.ofNat 64 a:=BitVec.ofInt_natCast 64 a;have h2:BitVec.ofInt IntKind.i64.bits 1=BitVec.ofNat 64 1:=BitVec.ofInt_natCast 64 1;have h3:(BitVec.ofNat 64 a&&&BitVec.ofNat 64 1).toNat=a%2:=by
  rw[BitVec.toNat_and,BitVec.toNat_ofNat,BitVec.toNat_ofNat,Nat.mod_eq_of_lt (by omega),Nat.mod_eq_of_lt (by omega),Nat.and_one_is_mod]
 simp only[Option.map_some,Option.some.injEq,DV.int.injEq,true_and];rw[h1,h2];show IntKind.i64.wrap (((BitVec.ofNat 64 a&&&BitVec.ofNat 64 1).toNat:Nat):Int)=_;rw[h3,IntKind.wrap_i64];omega
theorem qDF(m i:Nat):((((m/2^i%2:Nat):Int)==1)=m.testBit i):=by
 rw[Nat.testBit_eq_decide_div_mod_eq,Bool.eq_iff_iff,beq_iff_eq,decide_eq_true_eq];generalize m/2^i%2=r;omega
def onB(l:List T)(m:Nat):Nat->List T
 |0=>[]
 |i+1=>if m.testBit i then onB l m i++[tAt l i]else onB l m i
def qfD(l:List T)(m:Nat):Nat->List T
 |0=>[]
 |i+1=>if m.testBit i then qfD l m i else qfD l m i++[tAt l i]
theorem qt6(l:List T)(m:Nat):∀i,(onB l m i).length<=i
 |0=>Nat.le_refl _
 |i+1=>by have:=qt6 l m i;unfold onB;split<;>simp<;>omega
theorem qpV(l:List T)(m:Nat):∀i,(qfD l m i).length<=i
 |0=>Nat.le_refl _
 |i+1=>by have:=qpV l m i;unfold qfD;split<;>simp<;>omega
theorem qCl(l:List T)(m:Nat)(hl:l.length<=30)(hm:m<1099511627776):
 qac XV 315 [.d (qaa .sub l),.d (.int .i64 m)] []=some (.d (.tup [.sl U ((onB l m l.length).map (T.enc .sub)),.sl U ((qfD l m l.length).map (T.enc .sub))]),[]):=by
 rw[qah XV _ _ _ qK1 rfl qzt rfl];have h:=qal (X:=XV) (T:=XV.lin 315) (L:=0) (live:=[0,1,6,7,8]) (b:=qsB) (n:=l.length) (γ:=Nat) (st:=fun(_:Unit) i=>⟨[(0,.d (qaa .sub l)),(1,.d (.int .i64 m)),(6,.d (.sl U ((onB l m i).map (T.enc .sub)))),(7,.d (.sl U ((qfD l m i).map (T.enc .sub)))),(8,.d (.int .i64 i))],[]⟩) (step:=qcr)
  (F:=fun _=>(.exit 0,⟨[(0,.d (qaa .sub l)),(1,.d (.int .i64 m)),(6,.d (.sl U ((onB l m l.length).map (T.enc .sub)))),(7,.d (.sl U ((qfD l m l.length).map (T.enc .sub)))),(8,.d (.int .i64 l.length)),(14,.d (.bool false))],[]⟩)) (R:=fun _=>(.ret,⟨[],[]⟩))
  (fun a=>⟨by simp,by simp[qsB,qns,qnr,qnq,qnp,qnn,qnm,qnl,qno,qnk]⟩)
  (fun a i hi=>by
   have hw:=qai (n:=i) (by omega);have h1:=qt6 l m i;have h2:=qpV l m i;have a1:=qg4 (onB l m i) [tAt l i] U (by simp;omega);have a2:=qg4 (qfD l m i) [tAt l i] U (by simp;omega);simp only[List.map_cons,List.map_nil,List.map_append]at a1 a2;have hs1:=qAr m i (by omega);have hdm:m/2^i<4611686018427387904:=Nat.lt_of_le_of_lt (Nat.div_le_self _ _) (by omega);have hs2:=and_one (m/2^i) hdm;have hs3:=qDF m i;generalize m/2^i=q at hs1 hs2 hs3;generalize q%2=r at hs2 hs3;unfold qcr
   by_cases hb:m.testBit i=true
   ·exact⟨_,by simp[qsB,qns,qnr,qnq,qnp,qnn,qnm,qnl,qno,qnk,hi,hw,cut,qan hi,a1,hs1,hs2,hs3,hb];rfl,by simp[qad,qab,onB,qfD,hb]⟩
   ·exact⟨_,by simp[qsB,qns,qnr,qnq,qnp,qnn,qnm,qnl,qno,qnk,hi,hw,cut,qan hi,a2,hs1,hs2,hs3,hb];rfl,by simp[qad,qab,onB,qfD,hb]⟩)
  l.length () 0 ⟨[(0,.d (qaa .sub l)),(1,.d (.int .i64 m)),(6,.d (.sl U [])),(7,.d (.sl U [])),(8,.d (.int .i64 0))],[]⟩ (by omega) (by simp[qad,qab,onB,qfD])
 rw[qkN]at h;simp only[qJJ]at h;simp[qK1,qns,qnr,qnq,qnp,qnn,qnm,qnl,qno,qnk];rw[h];simp[qK1,qns,qnr,qnq,qnp,qnn,qnm,qnl,qno,qnk]
def qb1(p t:T):Gl:=⟨false,0,[p],[t]⟩
def qa7(f:Int)(ps ts:List T):Gl:=⟨true,f,ps,ts⟩
def partsOf(f:Int)(t:T):List T:=if t.f=f then t.kids else [t]
def evs(s:List SymL):Nat->List Gl->List Bd->List (Option (List Bd))
 |0,_,_=>[]
 |n+1,[],u=>[none,some u]
 |n+1,⟨true,f,ps,ts⟩::rest,u=>none::(match ps with
  | []=>if ts.length=0 then evs s n rest u else []
  |p::ps=>if p.f= -1 then(match qbV u p.v with
   |some j=>(match takeN ts (partsOf f (bAt u j).t)with
    | .inl r=>evs s n (qa7 f ps r::rest) u
    | .inr _=>[])
   |none=>(List.range (2^ts.length-1)).flatMap fun m=>evs s n (qa7 f ps (qfD ts (m+1) ts.length)::rest) (qgT u p.v (qdN s f (onB ts (m+1) ts.length))))
   else(List.range ts.length).flatMap fun i=>evs s n (qb1 p (tAt ts i)::qa7 f ps (qbj ts i)::rest) u)
 |n+1,⟨false,f,ps,ts⟩::rest,u=>none::(if(tAt ps 0).f= -1 then(match qbV u (tAt ps 0).v with
  |none=>evs s n rest (qgT u (tAt ps 0).v (tAt ts 0))
  |some j=>if T.cmp (bAt u j).t (tAt ts 0)==0 then evs s n rest u else [])
  else if(tAt ps 0).f≠(tAt ts 0).f then []
  else if qaK s (tAt ps 0).f=true then evs s n (qa7 (tAt ps 0).f (tAt ps 0).kids (tAt ts 0).kids::rest) u
  else if(tAt ps 0).kids.length≠(tAt ts 0).kids.length then []
  else evs s n ((List.range (tAt ps 0).kids.length).map (fun i=>qb1 (tAt (tAt ps 0).kids i) (tAt (tAt ts 0).kids i))++rest) u)
def glW(g:Gl):Nat:=if g.many then 1+3*qcm g.ps else 3*(tAt g.ps 0).inner+2
def qef(l:List Gl):Nat:=(l.map glW).sum
structure MS where
 ways:List (List Bd)
 steps:Nat
 over:Bool
def MS.done(S:MS):Bool:=S.over||decide (60<S.ways.length)
def MS.ev(S:MS)(e:Option (List Bd)):MS:=
 if S.done then S else match e with
 |none=>{S with steps:=S.steps+1,over:=decide (20000<S.steps+1)}
 |some u=>if qv8 S.ways u then S else{S with ways:=S.ways++[u]}
def MS.run(S:MS)(es:List (Option (List Bd))):MS:=es.foldl MS.ev S
theorem MS.qf5(S:MS)(h:S.done=true):∀es,S.run es=S
 | []=>rfl
 |e::es=>by
  have:S.ev e=S:=by unfold MS.ev;rw[if_pos h]
  show MS.run (S.ev e) es=S;rw[this];exact MS.qf5 S h es
theorem MS.qg5(S:MS)(a b:List (Option (List Bd))):S.run (a++b)=(S.run a).run b:=List.foldl_append
theorem MS.qfi(S:MS)(e:Option (List Bd))(b:List (Option (List Bd))):S.run (e::b)=(S.ev e).run b:=rfl
theorem MS.qPv(S:MS)(e:Option (List Bd))(h:S.ways.length<=61):(S.ev e).ways.length<=61:=by
 unfold MS.ev;split
 ·exact h
 ·rename_i hd
  cases e with
  |none=>exact h
  |some u=>
   simp only;split
   ·exact h
   ·unfold MS.done at hd
    simp only[Bool.or_eq_true,decide_eq_true_eq,not_or]at hd;simp;omega
abbrev qbQ(ws:List (List Bd)):DV:= .sl U (ws.map (binds U))
def mB(s:List SymL)(S:MS):List AV:=qxX (sg s) (qbQ S.ways) 60 S.steps 20000 S.over
theorem qht(s:List SymL)(S:MS)(pre r:qao):qac XV 319 [.ptr pre.length 0] (pre++some (mB s S)::r)=some (.d (.bool S.done),pre++some (mB s S)::r):=by
 have h:=qKy pre r (sg s) U (S.ways.map (binds U)) 60 S.steps 20000 S.over;have e:decide (((S.ways.map (binds U)).length:Int)>60)=decide (60<S.ways.length):=by
  rw[List.length_map,Bool.eq_iff_iff,decide_eq_true_eq,decide_eq_true_eq];omega
 rw[e]at h;exact h
theorem qdU(pre:qao)(x:Option (List AV))(r e:qao):(pre++x::(r++e)).take (pre.length+(r.length+1))=pre++x::r:=by
 rw[show pre++x::(r++e)=(pre++x::r)++e by simp,List.take_left' (by simp)]
theorem qCP(s:List SymL)(S:MS)(gl:List Gl)(u:List Bd)(pre r:qao)(hd:S.done=true):
 qac XV 318 [.ptr pre.length 0,.d (qaO .sub gl),.d (binds .sub u)] (pre++some (mB s S)::r)=some (.d (.tup []),pre++some (mB s S)::r):=by
 rw[qah XV _ _ _ quZ rfl qgc rfl];have h:=qht s S pre (r++[some [.d (binds .sub u)]]);rw[hd]at h;have hl:pre.length<pre.length+(r.length+1):=by omega
 simp[quZ,qlf,qle,qld,qoX,qlc,qlb,qla,qoW,qoV,qk9,qhk,qiY,h,hl,qdU]
def MS.step(S:MS):MS:={S with steps:=S.steps+1,over:=decide (20000<S.steps+1)}
theorem MS.qgP(S:MS)(h:S.done=false):S.ev none=S.step:=by unfold MS.ev;rw[h];rfl
theorem MS.quR(S:MS)(h:S.done=false)(u:List Bd):S.ev (some u)=if qv8 S.ways u then S else{S with ways:=S.ways++[u]}:=by unfold MS.ev;rw[h];rfl
theorem qCN(s:List SymL)(S:MS)(gl:List Gl)(u:List Bd)(pre r:qao)(hd:S.done=false)(ho:20000<S.steps+1)(hst:S.steps<=20001):
 qac XV 318 [.ptr pre.length 0,.d (qaO .sub gl),.d (binds .sub u)] (pre++some (mB s S)::r)=some (.d (.tup []),pre++some (mB s S.step)::r):=by
 rw[qah XV _ _ _ quZ rfl qgc rfl];have h:=qht s S pre (r++[some [.d (binds .sub u)]]);rw[hd]at h;have hl:pre.length<pre.length+(r.length+1):=by omega
 have hn2:¬(pre.length+(r.length+1+1)<=pre.length):=by omega
 have hw:IntKind.i64.wrap ((S.steps:Int)+1)=((S.steps+1:Nat):Int):=by rw[IntKind.wrap_i64];omega
 have hg:(20000:Int)<((S.steps+1:Nat):Int):=by omega
 have e:mB s S=[.d (sg s),.d (qbQ S.ways),.d (.int .i64 60),.d (.int .i64 S.steps),.d (.int .i64 20000),.d (.bool S.over)]:=rfl;have e2:mB s S.step=[.d (sg s),.d (qbQ S.ways),.d (.int .i64 60),.d (.int .i64 (S.steps+1:Nat)),.d (.int .i64 20000),.d (.bool true)]:=by
  unfold mB qxX MS.step;simp[ho]
 rw[e]at h;rw[e,e2];generalize ((S.steps+1:Nat):Int)=m at*
 simp[quZ,qlf,qle,qld,qoX,qlc,qlb,qla,qoW,qoV,qk9,qhk,qiY,h,hl,qdU,get_at,qaS,splice,hw,hg,hn2]
@[simp] theorem qDv:DV.clr∘binds U=binds .sub:=funext fun w=>by simp[binds]
theorem qwH(L:List (List Bd))(t:Tag)(u:List Bd)(hl:(L.length+1)*24<=140737488355328):qaX 1 24 (.sl U (L.map (binds U))) (.sl t [binds U u])=some (.sl U ((L++[u]).map (binds U))):=by
 have h1:(L.map (binds U)).all (fun e=>decide (e.cells.length=1))=true:=by
  rw[List.all_eq_true];intro y hy;obtain⟨z,_,rfl⟩:=List.mem_map.1 hy;rfl
 unfold qaX;simp only;rw[if_pos (by rfl)];simp only[List.isEmpty_cons,Bool.false_eq_true,if_false];rw[if_pos ⟨by simpa using hl,trivial,h1⟩];simp
theorem qGe(s:List SymL)(S:MS)(u:List Bd)(pre r:qao)(hd:S.done=false)(ho:S.steps+1<=20000)(hw:∀w,w∈S.ways->small w)(hu:small u):
 qac XV 318 [.ptr pre.length 0,.d (qaO .sub []),.d (binds .sub u)] (pre++some (mB s S)::r)=some (.d (.tup []),pre++some (mB s (if qv8 S.ways u then S.step else{S.step with ways:=S.ways++[u]}))::r):=by
 rw[qah XV _ _ _ quZ rfl qgc rfl];have h:=qht s S pre (r++[some [.d (binds .sub u)]]);rw[hd]at h;have hln:S.ways.length<=60:=by
  unfold MS.done at hd;simp only[Bool.or_eq_false_iff,decide_eq_false_iff_not]at hd;omega
 have hl:pre.length<pre.length+(r.length+1):=by omega
 have hl2:pre.length<pre.length+(r.length+1+1):=by omega
 have hn2:¬(pre.length+(r.length+1+1)<=pre.length):=by omega
 have hn3:¬(r.length+1<=r.length):=by omega
 have hwr:IntKind.i64.wrap ((S.steps:Int)+1)=((S.steps+1:Nat):Int):=by rw[IntKind.wrap_i64];omega
 have hg:¬(20000:Int)<((S.steps+1:Nat):Int):=by omega
 have hdo:decide (20000<S.steps+1)=false:=by simp;omega
 have hov:S.over=false:=by unfold MS.done at hd;simp only[Bool.or_eq_false_iff]at hd;exact hd.1
 have e:mB s S=[.d (sg s),.d (qbQ S.ways),.d (.int .i64 60),.d (.int .i64 S.steps),.d (.int .i64 20000),.d (.bool false)]:=by unfold mB qxX;rw[hov]
 have e2:mB s S.step=[.d (sg s),.d (qbQ S.ways),.d (.int .i64 60),.d (.int .i64 (S.steps+1:Nat)),.d (.int .i64 20000),.d (.bool false)]:=by
  unfold mB qxX MS.step;rw[hdo]
 have e3:mB s {S.step with ways:=S.ways++[u]}=[.d (sg s),.d (qbQ (S.ways++[u])),.d (.int .i64 60),.d (.int .i64 (S.steps+1:Nat)),.d (.int .i64 20000),.d (.bool false)]:=by
  unfold mB qxX MS.step;rw[hdo]
 have hcon:=quD S.ways u (pre++some (mB s S.step)::r) [] (by omega) hw hu;have hcp:=qyp u hu;have hap:=qwH S.ways U u (by omega);simp only[yg_,List.length_cons,yh_,List.cons_append]at hcon;rw[e2]at hcon;rw[e]at h;rw[e];cases hh:qv8 S.ways u with
 |true=>
  rw[hh]at hcon;simp only[if_true];rw[e2];generalize ((S.steps+1:Nat):Int)=m at*
  simp[quZ,qlf,qle,qld,qoX,qlc,qlb,qla,qoW,qoV,qk9,qhk,qiY,h,hl,hl2,qdU,get_at,qaS,splice,hwr,hg,hn2,hcon]
 |false=>
  rw[hh]at hcon;simp only[Bool.false_eq_true,if_false];rw[e3];generalize ((S.steps+1:Nat):Int)=m at*
  simp[quZ,qlf,qle,qld,qoX,qlc,qlb,qla,qoW,qoV,qk9,qhk,qiY,h,hl,hl2,qdU,get_at,qaS,splice,hwr,hg,hn2,hn3,hcon,hcp,hap]
theorem qCx(b:Bool)(f:Int)(ps ts:List T):DV.agg [.bool b,.int .i64 f,qaa .sub ps,qaa .sub ts]=(Gl.mk b f ps ts).enc .sub:=rfl
@[simp] theorem Gl.qfC(g:Tag)(x:Gl):(x.enc g).cells=[.bool x.many,.int .i64 x.f,qaa g x.ps,qaa g x.ts]:=rfl
@[simp] theorem Gl.qja(g:Tag)(x:Gl):(AV.d (x.enc g)).cells=[.d (.bool x.many),.d (.int .i64 x.f),.d (qaa g x.ps),.d (qaa g x.ts)]:=rfl
@[simp] theorem Gl.qi8(g:Tag)(x:Gl):(x.enc g).isCell=false:=rfl
@[simp] theorem Gl.qfq(x:Gl):(x.enc .sub).clr=x.enc .sub:=by simp[Gl.enc]
@[simp] theorem quI:DV.clr∘Gl.enc .sub=Gl.enc .sub:=funext fun w=>by simp
theorem qCO(s:List SymL)(S S':MS)(f:Int)(ps ts:List T)(rest:List Gl)(u:List Bd)(pre r:qao)(hd:S.done=false)(ho:S.steps+1<=20000)
 (hrec:∀r',qac XV 321 [.ptr pre.length 0,.d ((Gl.mk true f ps ts).enc .sub),.d (qaO .sub rest),.d (binds .sub u)] (pre++some (mB s S.step)::r')=some (.d (.tup []),pre++some (mB s S')::r')):
 qac XV 318 [.ptr pre.length 0,.d (qaO .sub (⟨true,f,ps,ts⟩::rest)),.d (binds .sub u)] (pre++some (mB s S)::r)=some (.d (.tup []),pre++some (mB s S')::r):=by
 rw[qah XV _ _ _ quZ rfl qgc rfl];have h:=qht s S pre (r++[some [.d (binds .sub u)]]);rw[hd]at h;have hl:pre.length<pre.length+(r.length+1):=by omega
 have hl2:pre.length<pre.length+(r.length+1+1):=by omega
 have hl3:pre.length<pre.length+(r.length+1+1+1):=by omega
 have hn2:¬(pre.length+(r.length+1+1)<=pre.length):=by omega
 have hn3:¬(r.length+1<=r.length):=by omega
 have hwr:IntKind.i64.wrap ((S.steps:Int)+1)=((S.steps+1:Nat):Int):=by rw[IntKind.wrap_i64];omega
 have hg:¬(20000:Int)<((S.steps+1:Nat):Int):=by omega
 have hdo:decide (20000<S.steps+1)=false:=by simp;omega
 have hov:S.over=false:=by unfold MS.done at hd;simp only[Bool.or_eq_false_iff]at hd;exact hd.1
 have e:mB s S=[.d (sg s),.d (qbQ S.ways),.d (.int .i64 60),.d (.int .i64 S.steps),.d (.int .i64 20000),.d (.bool false)]:=by unfold mB qxX;rw[hov]
 have e2:mB s S.step=[.d (sg s),.d (qbQ S.ways),.d (.int .i64 60),.d (.int .i64 (S.steps+1:Nat)),.d (.int .i64 20000),.d (.bool false)]:=by
  unfold mB qxX MS.step;rw[hdo]
 have hr:=hrec (r++[some [.d (binds .sub u)],some [.d (.bool true),.d (.int .i64 f),.d (qaa .sub ps),.d (qaa .sub ts)]]);rw[e2]at hr;rw[e]at h;rw[e];have hz:¬((rest.length:Int)+1=0):=by omega
 have hz2:(0:Int)<=(rest.length:Int):=by omega
 have hz3:(((rest.length:Int)+1)==0)=false:=by simp;omega
 have ht1:List.take rest.length (rest.map (Gl.enc .sub))=rest.map (Gl.enc .sub):=List.take_of_length_le (by simp);generalize ((S.steps+1:Nat):Int)=m at*
 generalize mB s S'=X at*
 simp[quZ,qlf,qle,qld,qoX,qlc,qlb,qla,qoW,qoV,qk9,qhk,qiY,h,hl,hl2,hl3,qdU,get_at,qaS,splice,hwr,hg,hn2,hn3,hz,hz2,hz3,cut,ht1,qCx,hr]
theorem qCM(s:List SymL)(S S':MS)(f:Int)(p t:T)(rest:List Gl)(u:List Bd)(pre r:qao)(hd:S.done=false)(ho:S.steps+1<=20000)
 (hrec:∀r',qac XV 322 [.ptr pre.length 0,.d (p.enc .sub),.d (t.enc .sub),.d (qaO .sub rest),.d (binds .sub u)] (pre++some (mB s S.step)::r')=some (.d (.tup []),pre++some (mB s S')::r')):
 qac XV 318 [.ptr pre.length 0,.d (qaO .sub (⟨false,f,[p],[t]⟩::rest)),.d (binds .sub u)] (pre++some (mB s S)::r)=some (.d (.tup []),pre++some (mB s S')::r):=by
 obtain⟨pf,pv,pk⟩:=p;obtain⟨tf,tv,tk⟩:=t;rw[qah XV _ _ _ quZ rfl qgc rfl];have h:=qht s S pre (r++[some [.d (binds .sub u)]]);rw[hd]at h;have hl:pre.length<pre.length+(r.length+1):=by omega
 have hl2:pre.length<pre.length+(r.length+1+1):=by omega
 have hl3:pre.length<pre.length+(r.length+1+1+1):=by omega
 have hn2:¬(pre.length+(r.length+1+1)<=pre.length):=by omega
 have hn3:¬(r.length+1<=r.length):=by omega
 have hn4:¬(r.length+2<=r.length):=by omega
 have hl4:pre.length<pre.length+(r.length+2+1):=by omega
 have hwr:IntKind.i64.wrap ((S.steps:Int)+1)=((S.steps+1:Nat):Int):=by rw[IntKind.wrap_i64];omega
 have hg:¬(20000:Int)<((S.steps+1:Nat):Int):=by omega
 have hdo:decide (20000<S.steps+1)=false:=by simp;omega
 have hov:S.over=false:=by unfold MS.done at hd;simp only[Bool.or_eq_false_iff]at hd;exact hd.1
 have e:mB s S=[.d (sg s),.d (qbQ S.ways),.d (.int .i64 60),.d (.int .i64 S.steps),.d (.int .i64 20000),.d (.bool false)]:=by unfold mB qxX;rw[hov]
 have e2:mB s S.step=[.d (sg s),.d (qbQ S.ways),.d (.int .i64 60),.d (.int .i64 (S.steps+1:Nat)),.d (.int .i64 20000),.d (.bool false)]:=by
  unfold mB qxX MS.step;rw[hdo]
 have hr:=hrec (r++[some [.d (binds .sub u)],some [.d (.bool false),.d (.int .i64 f),.d (.sl .sub [(T.node pf pv pk).enc .sub]),.d (.sl .sub [(T.node tf tv tk).enc .sub])]]);rw[e2]at hr;rw[e]at h;rw[e];have hz:¬((rest.length:Int)+1=0):=by omega
 have hz2:(0:Int)<=(rest.length:Int):=by omega
 have hz3:(((rest.length:Int)+1)==0)=false:=by simp;omega
 have ht1:List.take rest.length (rest.map (Gl.enc .sub))=rest.map (Gl.enc .sub):=List.take_of_length_le (by simp);generalize ((S.steps+1:Nat):Int)=m at*
 generalize mB s S'=X at*
 simp[quZ,qlf,qle,qld,qoX,qlc,qlb,qla,qoW,qoV,qk9,qhk,qiY,h,hl,hl2,hl3,qdU,get_at,qaS,splice,hwr,hg,hn2,hn3,hn4,hl4,hz,hz2,hz3,cut,ht1,qCx,hr]
theorem qcu{α:Type}(B:List α)(x y z:α)(r:List α):(B++x::y::z::r)[B.length+2]?=some z:=by
 rw[yd_ (by omega),show B.length+2-B.length=2 by omega];rfl
theorem qcP{α:Type}(B:List α)(x y z v:α)(r:List α):(B++x::y::z::r).set (B.length+2) v=B++x::y::v::r:=by
 rw[List.set_append_right _ _ (by omega),show B.length+2-B.length=2 by omega];rfl
section
variable (s:List SymL) (p t:T) (rest:List Gl) (u:List Bd) (k:Nat) (Q Q':qao)
theorem qB2(hs:s.length<=1099511627776)(hv:p.f= -1)(hb:qbV u p.v=none)(hu:u.length<=1099511627776)(hk:k<Q.length)(hQ:Q'.length=Q.length)
 (hrec:∀e,qac XV 318 [.ptr k 0,.d (qaO .sub rest),.d (binds .sub (qgT u p.v t))] (Q++e)=some (.d (.tup []),Q'++e)):
 qac XV 322 [.ptr k 0,.d (p.enc .sub),.d (t.enc .sub),.d (qaO .sub rest),.d (binds .sub u)] Q=some (.d (.tup []),Q'):=by
 obtain⟨pf,pv,pk⟩:=p;obtain⟨tf,tv,tk⟩:=t;simp only[T.qaW,T.qdR]at hv hb hrec;subst hv;rw[qah XV _ _ _ qqM rfl qfr rfl];have h1:=qd7 (.node (-1) pv pk);simp only[T.qaW,BEq.rfl]at h1;have h2:=qku u pv hu;rw[hb]at h2;simp only at h2;have h3:=qBW .sub .sub (by simp) (by simp) u pv (.node tf tv tk) [] hu;have hr:=hrec [some [.d (.int .i64 (-1)),.d (.int .i64 pv),.d (qaa .sub pk)],some [.d (.int .i64 tf),.d (.int .i64 tv),.d (qaa .sub tk)],some [.d (.int .i64 0),.d (.int .i64 0),.d (qaa .sub [])]];have hk1:k<Q.length+2:=by omega
 have hk2:k<Q.length+3:=by omega
 have hk3:k<Q.length+1:=by omega
 generalize qgT u pv (.node tf tv tk)=u2 at*
 simp[qqM,qgq,qgp,qgo,qgn,qgm,qgl,qgk,qgj,qha,qgi,qeJ,qeI,qeH,qeG,qeF,qfn,qeE,qeD,h1,h2,h3,hr,hk,hk1,hk2,hk3,hQ,get_at,qaS,qbb,qbg,qcu,qcP,splice,cut]
theorem qxR(j:Nat)(hv:p.f= -1)(hb:qbV u p.v=some j)(hu:small u)(ht:t.inner<=1099511627776)(hk:k<Q.length)(hQ:Q'.length=Q.length)
 (hrec:(T.cmp (bAt u j).t t==0)=true->∀e,qac XV 318 [.ptr k 0,.d (qaO .sub rest),.d (binds .sub u)] (Q++e)=some (.d (.tup []),Q'++e)) (hno:(T.cmp (bAt u j).t t==0)=false->Q'=Q):
 qac XV 322 [.ptr k 0,.d (p.enc .sub),.d (t.enc .sub),.d (qaO .sub rest),.d (binds .sub u)] Q=some (.d (.tup []),Q'):=by
 obtain⟨pf,pv,pk⟩:=p;simp only[T.qaW,T.qdR]at hv hb hrec;subst hv;have hj:=(qci _ _ _ _ (show qau (fun i=>(bAt u i).v==pv) u.length 0=some j from hb)).2.1;have h3:=same_eq (bAt u j).t t (hu.2 j (by omega)) ht;obtain⟨tf,tv,tk⟩:=t;rw[qah XV _ _ _ qqM rfl qfr rfl];have h1:=qd7 (.node (-1) pv pk);simp only[T.qaW,BEq.rfl]at h1;have h2:=qku u pv hu.1;rw[hb]at h2;simp only at h2;generalize (bAt u j).t=w at*
 obtain⟨wf,wv,wk⟩:=w;have hk1:k<Q.length+2:=by omega
 have hk2:k<Q.length+3:=by omega
 have hk3:k<Q.length+1:=by omega
 cases hc:(T.cmp (.node wf wv wk) (.node tf tv tk)==0)with
 |true=>
  rw[hc]at h3;have hr:=hrec hc [some [.d (.int .i64 (-1)),.d (.int .i64 pv),.d (qaa .sub pk)],some [.d (.int .i64 tf),.d (.int .i64 tv),.d (qaa .sub tk)],some [.d (.int .i64 wf),.d (.int .i64 wv),.d (qaa .sub wk)]];simp[qqM,qgq,qgp,qgo,qgn,qgm,qgl,qgk,qgj,qha,qgi,qeJ,qeI,qeH,qeG,qeF,qfn,qeE,qeD,h1,h2,h3,hr,hk,hk1,hk2,hk3,hQ,get_at,qaS,qbb,qbg,qcu,qcP,splice,cut]
 |false=>
  rw[hc]at h3;rw[hno hc];simp[qqM,qgq,qgp,qgo,qgn,qgm,qgl,qgk,qgj,qha,qgi,qeJ,qeI,qeH,qeG,qeF,qfn,qeE,qeD,h1,h2,h3,hk,hk1,hk2,hk3,get_at,qaS,qbb,qbg,qcu,qcP,splice,cut]
end
theorem quP(a:List DV)(c:List Gl)(g:Tag)(h2:∀y,y∈a->y.cells.length=4)(hl:(a.length+c.length)*64<=140737488355328):qaX 4 64 (.sl U a) (.sl g (c.map (Gl.enc .sub)))=some (.sl U (a++c.map (Gl.enc .sub))):=by
 have h0:(c.map (Gl.enc .sub)).all (fun e=>decide (e.cells.length=4/\e.cells.all DV.isCell=true))=true:=by
  rw[List.all_eq_true];intro y hy;obtain⟨z,_,rfl⟩:=List.mem_map.1 hy;simp[qae,qaf,DV.isCell]
 have h1:a.all (fun e=>decide (e.cells.length=4))=true:=by
  rw[List.all_eq_true];intro y hy;simpa using h2 y hy
 unfold qaX;simp only;rw[if_pos h0];cases c with
 |nil=>simp
 |cons x r=>
  simp only[List.map_cons,List.isEmpty_cons,Bool.false_eq_true,if_false];rw[if_pos ⟨by simpa using hl,trivial,h1⟩]
section
variable (s:List SymL) (p t:T) (rest:List Gl) (u:List Bd) (k:Nat) (Q Q':qao)
theorem qxQ(hv:p.f≠-1)(hd:p.f≠t.f)(hk:k<Q.length):
 qac XV 322 [.ptr k 0,.d (p.enc .sub),.d (t.enc .sub),.d (qaO .sub rest),.d (binds .sub u)] Q=some (.d (.tup []),Q):=by
 obtain⟨pf,pv,pk⟩:=p;obtain⟨tf,tv,tk⟩:=t;simp only[T.qaW]at hv hd;rw[qah XV _ _ _ qqM rfl qfr rfl];have h1:=qd7 (.node pf pv pk);have hb:(pf== -1)=false:=by simpa using hv
 simp only[T.qaW,hb]at h1;have hd2:(pf !=tf)=true:=by simpa using hd
 have hk1:k<Q.length+2:=by omega
 simp[qqM,qgq,qgp,qgo,qgn,qgm,qgl,qgk,qgj,qha,qgi,qeJ,qeI,qeH,qeG,qeF,qfn,qeE,qeD,h1,hd2,hk,hk1,get_at,qaS,qbb,qbg,splice,cut]
theorem qxS(tl:List AV)(hs:s.length<=1099511627776)(hv:p.f≠-1)(hd:p.f=t.f)(hbl:qaK s p.f=true)(hk:k<Q.length)(hQ:Q'.length=Q.length)(hbx:Q[k]?=some (some (.d (sg s)::tl)))(hl:rest.length<=1000000000)
 (hrec:∀e,qac XV 318 [.ptr k 0,.d (qaO .sub (qa7 p.f p.kids t.kids::rest)),.d (binds .sub u)] (Q++e)=some (.d (.tup []),Q'++e)):
 qac XV 322 [.ptr k 0,.d (p.enc .sub),.d (t.enc .sub),.d (qaO .sub rest),.d (binds .sub u)] Q=some (.d (.tup []),Q'):=by
 obtain⟨pf,pv,pk⟩:=p;obtain⟨tf,tv,tk⟩:=t;simp only[T.qaW,T.qaQ]at hv hd hbl hrec;subst hd;rw[qah XV _ _ _ qqM rfl qfr rfl];have h1:=qd7 (.node pf pv pk);have hb:(pf== -1)=false:=by simpa using hv
 simp only[T.qaW,hb]at h1;have h2:=qee s hs pf;rw[hbl]at h2;have hk1:k<Q.length+2:=by omega
 have hr:=hrec [some [.d (.int .i64 pf),.d (.int .i64 pv),.d (qaa .sub pk)],some [.d (.int .i64 pf),.d (.int .i64 tv),.d (qaa .sub tk)]];have hg:∀e,(Q++e)[k]?=some (some (.d (sg s)::tl)):=fun e=>by rw[ye_ hk];exact hbx
 have hx:Q[k]=some (.d (sg s)::tl):=by rw[List.getElem?_eq_getElem hk]at hbx;simpa using hbx
 have hn:¬(Q.length+2<=k):=by omega
 have hn2:¬(Q.length+2<=Q.length):=by omega
 have ha:=quP [(qa7 pf pk tk).enc .sub] rest .sub (by simp) (by simp;omega);simp only[List.map_cons,qa7,qaO]at hr ha;simp[qqM,qgq,qgp,qgo,qgn,qgm,qgl,qgk,qgj,qha,qgi,qeJ,qeI,qeH,qeG,qeF,qfn,qeE,qeD,h1,h2,hk,hk1,hQ,hx,hn,hn2,ha,qCx,hr,get_at,qaS,qbb,qbg,splice,cut]
end
theorem qHL(l:List T)(i:Nat)(h:i<l.length):List.drop i (List.take (i+1) (l.map (T.enc .sub)))=[(tAt l i).enc .sub]:=by
 have h1:i<(l.map (T.enc .sub)).length:=by simpa using h
 rw[List.drop_take,show i+1-i=1 by omega,List.drop_eq_getElem_cons h1];simp[qan h]
theorem qpj{α:Type}(Q:List α)(x y:α):(Q++[x,y]).take (Q.length+2)=Q++[x,y]:=List.take_of_length_le (by simp)
def qbd(ps ts:List T)(n:Nat):List Gl:=(List.range n).map fun i=>qb1 (tAt ps i) (tAt ts i)
theorem qlT(ps ts:List T)(n:Nat):qbd ps ts (n+1)=qbd ps ts n++[qb1 (tAt ps n) (tAt ts n)]:=by
 unfold qbd;rw[List.range_succ,List.map_append];rfl
theorem qoD(ps ts:List T)(n:Nat):(qbd ps ts n).length=n:=by unfold qbd;simp
theorem qsb(l:List Gl):∀y,y∈l.map (Gl.enc .sub)->y.cells.length=4:=fun y hy=>by
 obtain⟨z,_,rfl⟩:=List.mem_map.1 hy;rfl
section
variable (s:List SymL) (p t:T) (rest:List Gl) (u:List Bd) (k:Nat) (Q Q':qao)
theorem qB1(tl:List AV)(hs:s.length<=1099511627776)(hv:p.f≠-1)(hd:p.f=t.f)(hbl:qaK s p.f=false)(hk:k<Q.length)(hbx:Q[k]?=some (some (.d (sg s)::tl)))(hne:p.kids.length≠t.kids.length):
 qac XV 322 [.ptr k 0,.d (p.enc .sub),.d (t.enc .sub),.d (qaO .sub rest),.d (binds .sub u)] Q=some (.d (.tup []),Q):=by
 obtain⟨pf,pv,pk⟩:=p;obtain⟨tf,tv,tk⟩:=t;simp only[T.qaW,T.qaQ]at hv hd hbl hne;subst hd;rw[qah XV _ _ _ qqM rfl qfr rfl];have h1:=qd7 (.node pf pv pk);have hb:(pf== -1)=false:=by simpa using hv
 simp only[T.qaW,hb]at h1;have h2:=qee s hs pf;rw[hbl]at h2;have hk1:k<Q.length+2:=by omega
 have hx:Q[k]=some (.d (sg s)::tl):=by rw[List.getElem?_eq_getElem hk]at hbx;simpa using hbx
 have hn:¬(Q.length+2<=k):=by omega
 have hn2:¬(Q.length+2<=Q.length):=by omega
 have h5:((pk.length:Int) !=tk.length)=true:=by simp;omega
 simp[qqM,qgq,qgp,qgo,qgn,qgm,qgl,qgk,qgj,qha,qgi,qeJ,qeI,qeH,qeG,qeF,qfn,qeE,qeD,h1,h2,h5,hk,hk1,hx,hn,hn2,get_at,qaS,qbb,qbg,splice,cut]
theorem qB0(tl:List AV)(hs:s.length<=1099511627776)(hv:p.f≠-1)(hd:p.f=t.f)(hbl:qaK s p.f=false)(hk:k<Q.length)(hQ:Q'.length=Q.length)(hbx:Q[k]?=some (some (.d (sg s)::tl)))(he:p.kids.length=t.kids.length)
 (hl:rest.length<=1000000000) (hpl:p.kids.length<=1000000000)
 (hrec:∀e,qac XV 318 [.ptr k 0,.d (qaO .sub (qbd p.kids t.kids p.kids.length++rest)),.d (binds .sub u)] (Q++e)=some (.d (.tup []),Q'++e)):
 qac XV 322 [.ptr k 0,.d (p.enc .sub),.d (t.enc .sub),.d (qaO .sub rest),.d (binds .sub u)] Q=some (.d (.tup []),Q'):=by
 obtain⟨pf,pv,pk⟩:=p;obtain⟨tf,tv,tk⟩:=t;simp only[T.qaW,T.qaQ]at hv hd hbl hrec he hpl;subst hd;rw[qah XV _ _ _ qqM rfl qfr rfl];have h1:=qd7 (.node pf pv pk);have hb:(pf== -1)=false:=by simpa using hv
 simp only[T.qaW,hb]at h1;have h2:=qee s hs pf;rw[hbl]at h2;have hk1:k<Q.length+2:=by omega
 have hx:Q[k]=some (.d (sg s)::tl):=by rw[List.getElem?_eq_getElem hk]at hbx;simpa using hbx
 have hn:¬(Q.length+2<=k):=by omega
 have hn2:¬(Q.length+2<=Q.length):=by omega
 have h5:((pk.length:Int) !=tk.length)=false:=by simp;omega
 have hn3:¬(Q.length+2<=Q.length+1):=by omega
 have h:=qal (X:=XV) (T:=XV.lin 322) (L:=Q.length+2) (live:=[0,3,4,6,7,12,77,78]) (b:=qwv) (n:=pk.length) (γ:=Nat) (st:=fun(_:Unit) i=>⟨[(0,.ptr k 0),(3,.d (qaO .sub rest)),(4,.d (binds .sub u)),(6,.ptr Q.length 0),(7,.ptr (Q.length+1) 0),(12,.d (.sl U ((qbd pk tk i).map (Gl.enc .sub)))),(77,.d (.int .i64 pk.length)),(78,.d (.int .i64 i))],Q++[some [.d (.int .i64 pf),.d (.int .i64 pv),.d (qaa .sub pk)],some [.d (.int .i64 pf),.d (.int .i64 tv),.d (qaa .sub tk)]]⟩) (step:=qcr)
  (F:=fun _=>(.exit 1,⟨[(0,.ptr k 0),(3,.d (qaO .sub rest)),(4,.d (binds .sub u)),(6,.ptr Q.length 0),(7,.ptr (Q.length+1) 0),(12,.d (.sl U ((qbd pk tk pk.length).map (Gl.enc .sub)))),(77,.d (.int .i64 pk.length)),(78,.d (.int .i64 pk.length)),(79,.d (.bool false))],Q++[some [.d (.int .i64 pf),.d (.int .i64 pv),.d (qaa .sub pk)],some [.d (.int .i64 pf),.d (.int .i64 tv),.d (qaa .sub tk)]]⟩)) (R:=fun _=>(.ret,⟨[],[]⟩))
  (fun a=>⟨by simp,by simp[qwv,qgq,qgp,qgo,qgn,qgm,qgl,qgk,qgj,qha,qgi,qeJ,qeI,qeH,qeG,qeF,qfn,qeE,qeD]⟩)
  (fun a i hi=>by
   have hw:=qai (n:=i) (by omega);have hi':i<tk.length:=by omega
   have o1:=qHL pk i hi;have o2:=qHL tk i hi';have ha:=quP ((qbd pk tk i).map (Gl.enc .sub)) [qb1 (tAt pk i) (tAt tk i)] U (qsb _) (by rw[List.length_map,qoD];simp;omega);rw[<-List.map_append,<-qlT]at ha;generalize hR2:(qbd pk tk (i+1)).map (Gl.enc .sub)=R2 at ha;generalize (qbd pk tk i).map (Gl.enc .sub)=R1 at*
   have hb4:qaX 4 64 (.sl U R1) (.sl U [.agg [.bool false,.int .i64 0,.sl .sub [(tAt pk i).enc .sub],.sl .sub [(tAt tk i).enc .sub]]])=some (.sl U R2):=ha;have h3:i<=pk.length:=by omega
   have h4:i+1<=pk.length:=by omega
   have h6:i+1<=tk.length:=by omega
   have h7:(0:Int)<=(i:Int)+1:=by omega
   unfold qcr;exact⟨_,by simp[qwv,qgq,qgp,qgo,qgn,qgm,qgl,qgk,qgj,qha,qgi,qeJ,qeI,qeH,qeG,qeF,qfn,qeE,qeD,hi,hi',hw,o1,o2,hb4,splice,h3,h4,h6,h7,hn2,hn3,qpj,cut,get_at,qaS,qbb,qbg];rfl,by simp[qad,qab,qpj,hk1,hR2]⟩)
  pk.length () 0 ⟨[(0,.ptr k 0),(3,.d (qaO .sub rest)),(4,.d (binds .sub u)),(6,.ptr Q.length 0),(7,.ptr (Q.length+1) 0),(12,.d (.sl U [])),(77,.d (.int .i64 pk.length)),(78,.d (.int .i64 0))],Q++[some [.d (.int .i64 pf),.d (.int .i64 pv),.d (qaa .sub pk)],some [.d (.int .i64 pf),.d (.int .i64 tv),.d (qaa .sub tk)]]⟩ (by omega) (by simp[qad,qab,qbd,hk1,qpj])
 rw[qkN]at h;simp only[qJH]at h;have ha:=quP ((qbd pk tk pk.length).map (Gl.enc .sub)) rest .sub (qsb _) (by rw[List.length_map,qoD];omega);have hr:=hrec [some [.d (.int .i64 pf),.d (.int .i64 pv),.d (qaa .sub pk)],some [.d (.int .i64 pf),.d (.int .i64 tv),.d (qaa .sub tk)]];simp only[qaO,List.map_append]at hr;have hcm:((qbd pk tk pk.length).map (Gl.enc .sub)).map DV.clr=(qbd pk tk pk.length).map (Gl.enc .sub):=by rw[List.map_map,quI]
 generalize (qbd pk tk pk.length).map (Gl.enc .sub)=R1 at*
 simp[qqM,qgq,qgp,qgo,qgn,qgm,qgl,qgk,qgj,qha,qgi,qeJ,qeI,qeH,qeG,qeF,qfn,qeE,qeD,h1,h2,h5,hk,hk1,hx,hn,hn2,get_at,qaS,qbb,qbg,splice,cut];rw[h];simp[qqM,qgq,qgp,qgo,qgn,qgm,qgl,qgk,qgj,qha,qgi,qeJ,qeI,qeH,qeG,qeF,qfn,qeE,qeD,hk,hk1,hQ,ha,hr,hcm]
end
theorem qKg(f:Int)(p:T)(ps ts r:List T)(more rest:List Gl)(u:List Bd)(k:Nat)(Q Q' e:qao)(hk:k<Q.length)(hQ:Q'.length=Q.length)(hl:more.length+1+rest.length<=1099511627776)(hp:ps.length<=1099511627776)
 (hrec:∀e,qac XV 318 [.ptr k 0,.d (qaO .sub (more++(qa7 f ps r::rest))),.d (binds .sub u)] (Q++e)=some (.d (.tup []),Q'++e)):
 qac XV 327 [.d (qaa .sub r),.d (qaO .sub more),.d (binds .sub u),.ptr Q.length 0,.ptr (Q.length+1) 0,.ptr (Q.length+2) 0]
  (Q++some [.ptr k 0]::some [.d (.bool true),.d (.int .i64 f),.d (qaa .sub (p::ps)),.d (qaa .sub ts)]::some [.d (qaO .sub rest)]::e)=
 some (.d (.tup []),Q'++some [.ptr k 0]::some [.d (.bool true),.d (.int .i64 f),.d (qaa .sub (p::ps)),.d (qaa .sub ts)]::some [.d (qaO .sub rest)]::e):=by
 rw[qah XV _ _ _ qLW rfl qzo rfl];have hr:=hrec (some [.ptr k 0]::some [.d (.bool true),.d (.int .i64 f),.d (qaa .sub (p::ps)),.d (qaa .sub ts)]::some [.d (qaO .sub rest)]::e);have hc:=qul .sub .sub .sub .sub (by simp) (by simp) (by simp) more [qa7 f ps r] rest [] (by simp) (by simp;omega);simp only[List.cons_append,List.nil_append]at hc;have hz:(0:Int)<=(ps.length:Int):=by omega
 have ht:List.take ps.length (ps.map (T.enc .sub))=ps.map (T.enc .sub):=List.take_of_length_le (by simp);have hk1:k<Q.length+(e.length+1+1+1):=by omega
 have hn1:¬(Q.length+(e.length+1+1+1)<=Q.length):=by omega
 have hn2:¬(Q.length+(e.length+1+1+1)<=Q.length+1):=by omega
 have hn3:¬(Q.length+(e.length+1+1+1)<=Q.length+2):=by omega
 simp only[qaO,List.map_cons,List.map_nil]at hc;simp only[qaO,List.map_append,List.map_cons]at hr;have hg:(qa7 f ps r).enc .sub= .agg [.bool true,.int .i64 f,qaa .sub ps,qaa .sub r]:=rfl;rw[hg]at hc;simp[qLW,qPa,hz,ht,hk1,hn1,hn2,hn3,hc,hr,get_at,qbb,qcu,splice,cut];exact List.take_of_length_le (by simp;omega)
section
variable (s:List SymL) (f:Int) (ts:List T) (rest:List Gl) (u:List Bd) (k:Nat) (Q Q':qao)
theorem qCg(hk:k<Q.length)(hQ:Q'.length=Q.length)(hrec:ts.length=0->∀e,qac XV 318 [.ptr k 0,.d (qaO .sub rest),.d (binds .sub u)] (Q++e)=some (.d (.tup []),Q'++e))(hno:ts.length≠0->Q'=Q):
 qac XV 321 [.ptr k 0,.d ((Gl.mk true f [] ts).enc .sub),.d (qaO .sub rest),.d (binds .sub u)] Q=some (.d (.tup []),Q'):=by
 rw[qah XV _ _ _ qqv rfl qhB rfl];have hk1:k<Q.length+3:=by omega
 by_cases c:ts.length=0
 ·have hc:ts=[]:=List.length_eq_zero_iff.1 c
  have hr:=hrec c [some [.ptr k 0],some [.d (.bool true),.d (.int .i64 f),.d (qaa .sub []),.d (qaa .sub [])],some [.d (qaO .sub rest)]];subst hc;simp[qqv,qcE,qcD,qcC,qcB,qcA,qcz,qcy,qcx,qcw,qcv,qbU,qbL,qbK,qbJ,qbI,qbH,qbG,qbF,qbE,qbD,qbC,qbB,qbz,qby,qbx,qbw,qbv,qbu,qbt,qbs,qbT,qbA,hr,hk,hk1,hQ,get_at,qbb,qcu,qaS,qbg,qcP,splice,cut]
 ·have hc:((ts.length:Int)==0)=false:=by simpa using c
  rw[hno c];simp[qqv,qcE,qcD,qcC,qcB,qcA,qcz,qcy,qcx,qcw,qcv,qbU,qbL,qbK,qbJ,qbI,qbH,qbG,qbF,qbE,qbD,qbC,qbB,qbz,qby,qbx,qbw,qbv,qbu,qbt,qbs,qbT,qbA,hc,hk,hk1,get_at,qbb,qcu,qaS,qbg,qcP,splice,cut]
theorem qx1(p:T)(ps:List T)(j:Nat)(hv:p.f= -1)(hb:qbV u p.v=some j)(hu:small u)(hk:k<Q.length)(hQ:Q'.length=Q.length)(hl:rest.length<=1000000000)(hp:ps.length<=1000000000)
 (htl:ts.length<=1099511627776) (hts:∀x,x∈ts->x.inner<=1099511627776)
 (hrec:∀r,takeN ts (partsOf f (bAt u j).t)= .inl r->∀e,qac XV 318 [.ptr k 0,.d (qaO .sub (qa7 f ps r::rest)),.d (binds .sub u)] (Q++e)=some (.d (.tup []),Q'++e)) (hno:∀r,takeN ts (partsOf f (bAt u j).t)= .inr r->Q'=Q):
 qac XV 321 [.ptr k 0,.d ((Gl.mk true f (p::ps) ts).enc .sub),.d (qaO .sub rest),.d (binds .sub u)] Q=some (.d (.tup []),Q'):=by
 obtain⟨pf,pv,pk⟩:=p;simp only[T.qaW,T.qdR]at hv hb hrec;subst hv;have hj:=(qci _ _ _ _ (show qau (fun i=>(bAt u i).v==pv) u.length 0=some j from hb)).2.1;rw[qah XV _ _ _ qqv rfl qhB rfl];have h1:=qd7 (.node (-1) pv pk);simp only[T.qaW,BEq.rfl]at h1;have h2:=qku u pv hu.1;rw[hb]at h2;simp only at h2;have hw:=hu.2 j (by omega);generalize (bAt u j).t=w at*
 obtain⟨wf,wv,wk⟩:=w;have hwi:∀x,x∈partsOf f (.node wf wv wk)->x.inner<=1099511627776:=fun x hx=>by
  unfold partsOf at hx;split at hx
  ·simp only[T.inner]at hw
   simp only[T.qaQ]at hx;have:=T.qaA hx;omega
  ·simp at hx;subst hx;exact hw
 have hwl:(partsOf f (.node wf wv wk)).length<=1099511627776:=by
  unfold partsOf;split
  ·have h9:=T.qg6 (.node wf wv wk)
   simp only[T.qaQ]at h9⊢
   omega
  ·simp
 have htk:=qE0 ts (partsOf f (.node wf wv wk)) htl hwl hts hwi;have hk1:k<Q.length+3:=by omega
 have hk2:k<Q.length+4:=by omega
 have hk3:k<Q.length+5:=by omega
 have hp0:¬((ps.length:Int)+1=0):=by omega
 have hp1:(((ps.length:Int)+1)==0)=false:=by simp;omega
 cases hc:takeN ts (partsOf f (.node wf wv wk))with
 |inl r=>
  rw[hc]at htk;have hgo:=qKg f (.node (-1) pv pk) ps ts r [] rest u k Q Q' [some [.d (.int .i64 (-1)),.d (.int .i64 pv),.d (qaa .sub pk)],some [.d (.int .i64 wf),.d (.int .i64 wv),.d (qaa .sub wk)]] hk hQ (by simp;omega) (by omega) (by simpa using hrec r hc);simp only[qaO,List.map_nil]at hgo
  by_cases c:wf=f
  ·have ep:partsOf f (.node wf wv wk)=wk:=by unfold partsOf;rw[if_pos (show(T.node wf wv wk).f=f from c)];rfl
   rw[ep]at htk;subst c;simp only at htk;simp[qqv,qcE,qcD,qcC,qcB,qcA,qcz,qcy,qcx,qcw,qcv,qbU,qbL,qbK,qbJ,qbI,qbH,qbG,qbF,qbE,qbD,qbC,qbB,qbz,qby,qbx,qbw,qbv,qbu,qbt,qbs,qbT,qbA,h1,h2,htk,hgo,hk,hk1,hk2,hk3,hQ,hp0,hp1,get_at,qbb,qcu,qaS,qbg,qcP,splice,cut]
  ·have ep:partsOf f (.node wf wv wk)=[.node wf wv wk]:=by unfold partsOf;rw[if_neg (show¬(T.node wf wv wk).f=f from c)]
   rw[ep]at htk;have c2:(wf==f)=false:=by simpa using c
   simp only[qaa,List.map_cons,List.map_nil]at htk;simp[qqv,qcE,qcD,qcC,qcB,qcA,qcz,qcy,qcx,qcw,qcv,qbU,qbL,qbK,qbJ,qbI,qbH,qbG,qbF,qbE,qbD,qbC,qbB,qbz,qby,qbx,qbw,qbv,qbu,qbt,qbs,qbT,qbA,h1,h2,c2,htk,hgo,hk,hk1,hk2,hk3,hQ,hp0,hp1,get_at,qbb,qcu,qaS,qbg,qcP,splice,cut]
 |inr r=>
  rw[hc]at htk;rw[hno r hc]
  by_cases c:wf=f
  ·have ep:partsOf f (.node wf wv wk)=wk:=by unfold partsOf;rw[if_pos (show(T.node wf wv wk).f=f from c)];rfl
   rw[ep]at htk;subst c;simp only at htk;simp[qqv,qcE,qcD,qcC,qcB,qcA,qcz,qcy,qcx,qcw,qcv,qbU,qbL,qbK,qbJ,qbI,qbH,qbG,qbF,qbE,qbD,qbC,qbB,qbz,qby,qbx,qbw,qbv,qbu,qbt,qbs,qbT,qbA,h1,h2,htk,hk,hk1,hk2,hk3,hp0,hp1,get_at,qbb,qcu,qaS,qbg,qcP,splice,cut]
  ·have ep:partsOf f (.node wf wv wk)=[.node wf wv wk]:=by unfold partsOf;rw[if_neg (show¬(T.node wf wv wk).f=f from c)]
   rw[ep]at htk;have c2:(wf==f)=false:=by simpa using c
   simp only[qaa,List.map_cons,List.map_nil]at htk;simp[qqv,qcE,qcD,qcC,qcB,qcA,qcz,qcy,qcx,qcw,qcv,qbU,qbL,qbK,qbJ,qbI,qbH,qbG,qbF,qbE,qbD,qbC,qbB,qbz,qby,qbx,qbw,qbv,qbu,qbt,qbs,qbT,qbA,h1,h2,c2,htk,hk,hk1,hk2,hk3,hp0,hp1,get_at,qbb,qcu,qaS,qbg,qcP,splice,cut]
end
theorem gA0{α:Type}{B:List α}{N:Nat}(h:B.length=N)(a:α)(r:List α):(B++a::r)[N]?=some a:=by subst h;simp
theorem gA1{α:Type}{B:List α}{N:Nat}(h:B.length=N)(a b:α)(r:List α):(B++a::b::r)[N+1]?=some b:=by subst h;rw[yd_ (by omega),show B.length+1-B.length=1 by omega];rfl
theorem gA2{α:Type}{B:List α}{N:Nat}(h:B.length=N)(a b c:α)(r:List α):(B++a::b::c::r)[N+2]?=some c:=by subst h;rw[yd_ (by omega),show B.length+2-B.length=2 by omega];rfl
theorem gA3{α:Type}{B:List α}{N:Nat}(h:B.length=N)(a b c d:α)(r:List α):(B++a::b::c::d::r)[N+3]?=some d:=by subst h;rw[yd_ (by omega),show B.length+3-B.length=3 by omega];rfl
theorem gA4{α:Type}{B:List α}{N:Nat}(h:B.length=N)(a b c d e:α)(r:List α):(B++a::b::c::d::e::r)[N+4]?=some e:=by subst h;rw[yd_ (by omega),show B.length+4-B.length=4 by omega];rfl
theorem sA4{α:Type}{B:List α}{N:Nat}(h:B.length=N)(a b c d e v:α)(r:List α):(B++a::b::c::d::e::r).set (N+4) v=B++a::b::c::d::v::r:=by subst h;rw[List.set_append_right _ _ (by omega),show B.length+4-B.length=4 by omega];rfl
theorem tA4{α:Type}{B:List α}{N:Nat}(h:B.length=N)(a b c d:α)(r:List α):(B++a::b::c::d::r).take (N+4)=B++[a,b,c,d]:=by
 subst h;rw[show B++a::b::c::d::r=(B++[a,b,c,d])++r by simp,List.take_left' (by simp)]
theorem qxZ(f:Int)(p:T)(ps ts:List T)(rest:List Gl)(u:List Bd)(k:Nat)(Qs:Nat->qao)(N:Nat)(hN:∀i,(Qs i).length=N)(hv:p.f≠-1)(hk:k<N)(hl:rest.length<=1000000000)(hp:ps.length<=1000000000)(htl:ts.length<=1000000000)
 (hrec:∀i,i<ts.length->∀e,qac XV 318 [.ptr k 0,.d (qaO .sub (qb1 p (tAt ts i)::qa7 f ps (qbj ts i)::rest)),.d (binds .sub u)] (Qs i++e)=some (.d (.tup []),Qs (i+1)++e)):
 qac XV 321 [.ptr k 0,.d ((Gl.mk true f (p::ps) ts).enc .sub),.d (qaO .sub rest),.d (binds .sub u)] (Qs 0)=some (.d (.tup []),Qs ts.length):=by
 obtain⟨pf,pv,pk⟩:=p;simp only[T.qaW]at hv;rw[qah XV _ _ _ qqv rfl qhB rfl];have h1:=qd7 (.node pf pv pk);have hb:(pf== -1)=false:=by simpa using hv
 simp only[T.qaW,hb]at h1;have hk1:k<N+4:=by omega
 have hk2:k<N+5:=by omega
 have hk3:k<N+3:=by omega
 have h:=qal (X:=XV) (T:=XV.lin 321) (L:=N+4) (live:=[3,5,8,9,43,44,45]) (b:=qww) (n:=ts.length) (γ:=Nat)
  (st:=fun(_:Unit) i=>⟨[(3,.d (binds .sub u)),(5,.ptr (N+1) 0),(8,.ptr (N+3) 0),(9,.fn 327 [.ptr N 0,.ptr (N+1) 0,.ptr (N+2) 0]),(43,.d (qaa .sub ts)),(44,.d (.int .i64 ts.length)),(45,.d (.int .i64 i))],
   Qs i++[some [.ptr k 0],some [.d (.bool true),.d (.int .i64 f),.d (qaa .sub (.node pf pv pk::ps)),.d (qaa .sub ts)],some [.d (qaO .sub rest)],some [.d (.int .i64 pf),.d (.int .i64 pv),.d (qaa .sub pk)]]⟩) (step:=qcr)
  (F:=fun _=>(.exit 0,⟨[(3,.d (binds .sub u)),(5,.ptr (N+1) 0),(8,.ptr (N+3) 0),(9,.fn 327 [.ptr N 0,.ptr (N+1) 0,.ptr (N+2) 0]),(43,.d (qaa .sub ts)),(44,.d (.int .i64 ts.length)),(45,.d (.int .i64 ts.length)),(46,.d (.bool false))],
   Qs ts.length++[some [.ptr k 0],some [.d (.bool true),.d (.int .i64 f),.d (qaa .sub (.node pf pv pk::ps)),.d (qaa .sub ts)],some [.d (qaO .sub rest)],some [.d (.int .i64 pf),.d (.int .i64 pv),.d (qaa .sub pk)]]⟩)) (R:=fun _=>(.ret,⟨[],[]⟩))
  (fun a=>⟨by simp,by simp[qww,qcE,qcD,qcC,qcB,qcA,qcz,qcy,qcx,qcw,qcv,qbU,qbL,qbK,qbJ,qbI,qbH,qbG,qbF,qbE,qbD,qbC,qbB,qbz,qby,qbx,qbw,qbv,qbu,qbt,qbs,qbT,qbA]⟩)
  (fun a i hi=>by
   have hw:=qai (n:=i) (by omega);have hq:=hN i;have hq1:=hN (i+1);have hr:=hrec i hi;have hwo:=qmZ .sub (by simp) ts i [] hi (by omega);have htt:=qan hi;generalize hti:tAt ts i=t at*
   obtain⟨tf,tv,tk⟩:=t;have hgo:=qKg f (.node pf pv pk) ps ts (qbj ts i) [qb1 (.node pf pv pk) (.node tf tv tk)] rest u k (Qs i) (Qs (i+1)) [some [.d (.int .i64 pf),.d (.int .i64 pv),.d (qaa .sub pk)],some [.d (.int .i64 tf),.d (.int .i64 tv),.d (qaa .sub tk)]] (by omega) (by omega) (by simp;omega) (by omega) hr;rw[hq]at hgo;have hpe:qaO .sub [qb1 (.node pf pv pk) (.node tf tv tk)]= .sl .sub [.agg [.bool false,.int .i64 0,.sl .sub [(T.node pf pv pk).enc .sub],.sl .sub [(T.node tf tv tk).enc .sub]]]:=rfl;rw[hpe]at hgo;unfold qbj at hgo;simp only[qaa,List.map_append,List.map_take,List.map_drop]at hgo;unfold qcr;refine⟨_,by simp[qww,qcE,qcD,qcC,qcB,qcA,qcz,qcy,qcx,qcw,qcv,qbU,qbL,qbK,qbJ,qbI,qbH,qbG,qbF,qbE,qbD,qbC,qbB,qbz,qby,qbx,qbw,qbv,qbu,qbt,qbs,qbT,qbA,hi,hw,cut,htt,hwo,hgo,gA0 hq,gA1 hq,gA2 hq,gA3 hq,gA4 hq,sA4 hq,hk1,hk2,hk3,hq,hq1,splice];rfl,?_⟩;simp[qad,qab,hk1,tA4 hq1,hq1])
  ts.length () 0 ⟨[(3,.d (binds .sub u)),(5,.ptr (N+1) 0),(8,.ptr (N+3) 0),(9,.fn 327 [.ptr N 0,.ptr (N+1) 0,.ptr (N+2) 0]),(43,.d (qaa .sub ts)),(44,.d (.int .i64 ts.length)),(45,.d (.int .i64 0))],
   Qs 0++[some [.ptr k 0],some [.d (.bool true),.d (.int .i64 f),.d (qaa .sub (.node pf pv pk::ps)),.d (qaa .sub ts)],some [.d (qaO .sub rest)],some [.d (.int .i64 pf),.d (.int .i64 pv),.d (qaa .sub pk)]]⟩ (by omega) (by simp[qad,qab,tA4 (hN 0),hN 0])
 rw[qkN]at h;simp only[qub]at h;have hq:=hN 0;have hq2:=hN ts.length;have hp1:(((ps.length:Int)+1)==0)=false:=by simp;omega
 simp[qqv,qcE,qcD,qcC,qcB,qcA,qcz,qcy,qcx,qcw,qcv,qbU,qbL,qbK,qbJ,qbI,qbH,qbG,qbF,qbE,qbD,qbC,qbB,qbz,qby,qbx,qbw,qbv,qbu,qbt,qbs,qbT,qbA,h1,hp1,hk,hk1,hk2,hk3,hq,hq2,gA0 hq,gA1 hq,gA2 hq,gA3 hq,splice,cut];rw[h];simp[qqv,qcE,qcD,qcC,qcB,qcA,qcz,qcy,qcx,qcw,qcv,qbU,qbL,qbK,qbJ,qbI,qbH,qbG,qbF,qbE,qbD,qbC,qbB,qbz,qby,qbx,qbw,qbv,qbu,qbt,qbs,qbT,qbA,hk,hk1,hq2]
theorem qDE(ts:List T)(m:Nat)(u:List Bd)(N:Nat)(Bx:qao)(hB:Bx.length=N+5)(hl:ts.length<=30)(hm:m<1099511627776):
 qbq XV (XV.lin 321) (N+5) [3,4,5,8,9,17,18,19,109,110,111] qo1 ⟨[(3,.d (binds .sub u)),(4,.ptr N 0),(5,.ptr (N+1) 0),(8,.ptr (N+3) 0),(9,.fn 327 [.ptr N 0,.ptr (N+1) 0,.ptr (N+2) 0]),(17,.d (.int .i64 m)),(18,.d (.sl U [])),(19,.d (.sl U [])),(109,.d (qaa .sub ts)),(110,.d (.int .i64 ts.length)),(111,.d (.int .i64 0))],Bx⟩=
  some (.exit 4,⟨[(3,.d (binds .sub u)),(4,.ptr N 0),(5,.ptr (N+1) 0),(8,.ptr (N+3) 0),(9,.fn 327 [.ptr N 0,.ptr (N+1) 0,.ptr (N+2) 0]),(17,.d (.int .i64 m)),(18,.d (.sl U ((onB ts m ts.length).map (T.enc .sub)))),(19,.d (.sl U ((qfD ts m ts.length).map (T.enc .sub)))),(109,.d (qaa .sub ts)),(110,.d (.int .i64 ts.length)),(111,.d (.int .i64 ts.length)),(112,.d (.bool false))],Bx⟩):=by
 have h:=qal (X:=XV) (T:=XV.lin 321) (L:=N+5) (live:=[3,4,5,8,9,17,18,19,109,110,111]) (b:=qo1) (n:=ts.length) (γ:=Nat)
  (st:=fun(_:Unit) i=>⟨[(3,.d (binds .sub u)),(4,.ptr N 0),(5,.ptr (N+1) 0),(8,.ptr (N+3) 0),(9,.fn 327 [.ptr N 0,.ptr (N+1) 0,.ptr (N+2) 0]),(17,.d (.int .i64 m)),(18,.d (.sl U ((onB ts m i).map (T.enc .sub)))),(19,.d (.sl U ((qfD ts m i).map (T.enc .sub)))),(109,.d (qaa .sub ts)),(110,.d (.int .i64 ts.length)),(111,.d (.int .i64 i))],Bx⟩) (step:=qcr)
  (F:=fun _=>(.exit 4,⟨[(3,.d (binds .sub u)),(4,.ptr N 0),(5,.ptr (N+1) 0),(8,.ptr (N+3) 0),(9,.fn 327 [.ptr N 0,.ptr (N+1) 0,.ptr (N+2) 0]),(17,.d (.int .i64 m)),(18,.d (.sl U ((onB ts m ts.length).map (T.enc .sub)))),(19,.d (.sl U ((qfD ts m ts.length).map (T.enc .sub)))),(109,.d (qaa .sub ts)),(110,.d (.int .i64 ts.length)),(111,.d (.int .i64 ts.length)),(112,.d (.bool false))],Bx⟩)) (R:=fun _=>(.ret,⟨[],[]⟩))
  (fun a=>⟨by simp,by simp[qo1,qcE,qcD,qcC,qcB,qcA,qcz,qcy,qcx,qcw,qcv,qbU,qbL,qbK,qbJ,qbI,qbH,qbG,qbF,qbE,qbD,qbC,qbB,qbz,qby,qbx,qbw,qbv,qbu,qbt,qbs,qbT,qbA]⟩)
  (fun a i hi=>by
   have hw:=qai (n:=i) (by omega);have h1:=qt6 ts m i;have h2:=qpV ts m i;have a1:=qg4 (onB ts m i) [tAt ts i] U (by simp;omega);have a2:=qg4 (qfD ts m i) [tAt ts i] U (by simp;omega);simp only[List.map_cons,List.map_nil,List.map_append]at a1 a2;have hs1:=qAr m i (by omega);have hdm:m/2^i<4611686018427387904:=Nat.lt_of_le_of_lt (Nat.div_le_self _ _) (by omega);have hs2:=and_one (m/2^i) hdm;have hs3:=qDF m i;generalize m/2^i=q at hs1 hs2 hs3;generalize q%2=r at hs2 hs3;have htt:=qan hi;have hon:onB ts m (i+1)=if m.testBit i then onB ts m i++[tAt ts i]else onB ts m i:=rfl
   have hof:qfD ts m (i+1)=if m.testBit i then qfD ts m i else qfD ts m i++[tAt ts i]:=rfl
   generalize tAt ts i=t at*
   obtain⟨tf,tv,tk⟩:=t;have tB:∀(x:Option (List AV)) (r:qao),(Bx++x::r).take (N+5)=Bx:=fun x r=>by rw[<-hB];simp
   unfold qcr
   by_cases hb:m.testBit i=true
   ·exact⟨_,by simp[qo1,qcE,qcD,qcC,qcB,qcA,qcz,qcy,qcx,qcw,qcv,qbU,qbL,qbK,qbJ,qbI,qbH,qbG,qbF,qbE,qbD,qbC,qbB,qbz,qby,qbx,qbw,qbv,qbu,qbt,qbs,qbT,qbA,hi,hw,cut,htt,a1,hs1,hs2,hs3,hb,hB,gA0 hB,splice];rfl,by simp[qad,qab,hon,hof,hb,hB,tB]⟩
   ·exact⟨_,by simp[qo1,qcE,qcD,qcC,qcB,qcA,qcz,qcy,qcx,qcw,qcv,qbU,qbL,qbK,qbJ,qbI,qbH,qbG,qbF,qbE,qbD,qbC,qbB,qbz,qby,qbx,qbw,qbv,qbu,qbt,qbs,qbT,qbA,hi,hw,cut,htt,a2,hs1,hs2,hs3,hb,hB,gA0 hB,splice];rfl,by simp[qad,qab,hon,hof,hb,hB,tB]⟩)
  ts.length () 0 ⟨[(3,.d (binds .sub u)),(4,.ptr N 0),(5,.ptr (N+1) 0),(8,.ptr (N+3) 0),(9,.fn 327 [.ptr N 0,.ptr (N+1) 0,.ptr (N+2) 0]),(17,.d (.int .i64 m)),(18,.d (.sl U [])),(19,.d (.sl U [])),(109,.d (qaa .sub ts)),(110,.d (.int .i64 ts.length)),(111,.d (.int .i64 0))],Bx⟩ (by omega) (by simp[qad,qab,onB,qfD,hB];rw[<-hB];simp)
 rw[qkN]at h;exact h
theorem qtp(n:Nat)(hn:n<=40):qe1 .shl .i64 1 (n:Int)=some (.int .i64 ((2^n:Nat):Int)):=by
 unfold qe1;have h0:¬((n:Int)<0):=by omega
 have hb:IntKind.i64.bits=64:=rfl;have hm:min n 64=n:=by omega
 have hp:2^n<=2^40:=Nat.pow_le_pow_right (by omega) hn;simp only[if_neg h0,Int.toNat_natCast,hb,hm,Option.some.injEq,DV.int.injEq,true_and,Int.one_mul];rw[show((2:Int)^n)=((2^n:Nat):Int)by rw[Int.natCast_pow];rfl,IntKind.wrap_i64];generalize 2^n=q at*
 omega
theorem tA5{α:Type}{B:List α}{N:Nat}(h:B.length=N)(a b c d f:α)(r:List α):(B++a::b::c::d::f::r).take (N+5)=B++[a,b,c,d,f]:=by
 subst h;rw[show B++a::b::c::d::f::r=(B++[a,b,c,d,f])++r by simp,List.take_left' (by simp)]
def qAm(D:Nat->Bool)(_:Unit)(i:Nat):Unit⊕Nat:=if D i then .inr i else .inl ()
theorem qke(s:List SymL)(hs:s.length<=1099511627776)(f:Int)(pv:Int)(pk ps ts:List T)(rest:List Gl)(u:List Bd)(k:Nat)(Qs:Nat->qao)(D:Nat->Bool)(N:Nat)(hN:∀i,(Qs i).length=N)(hk:k<N)(hl:rest.length<=1000000000)(hp:ps.length<=1000000000)(htl:ts.length<=12)(hu:u.length<=1099511627776)
 (hD:∀i e,qac XV 319 [.ptr k 0] (Qs i++e)=some (.d (.bool (D i)),Qs i++e)) (tl:Nat->List AV) (hbx:∀i,(Qs i)[k]?=some (some (.d (sg s)::tl i))) (hcn:∀m,qcm (onB ts m ts.length)<=1099511627776)
 (i:Nat) (hi:i+1<2^ts.length) (hnd:D i=false)
 (hrec:∀e,qac XV 318 [.ptr k 0,.d (qaO .sub (qa7 f ps (qfD ts (i+1) ts.length)::rest)),.d (binds .sub (qgT u pv (qdN s f (onB ts (i+1) ts.length))))] (Qs i++e)=some (.d (.tup []),Qs (i+1)++e)):
 ∃e,qay XV (XV.lin 321) qmB ⟨[(3,.d (binds .sub u)),(4,.ptr N 0),(5,.ptr (N+1) 0),(8,.ptr (N+3) 0),(9,.fn 327 [.ptr N 0,.ptr (N+1) 0,.ptr (N+2) 0]),(17,.d (.int .i64 (i+1:Nat)))],
  Qs i++[some [.ptr k 0],some [.d (.bool true),.d (.int .i64 f),.d (qaa .sub (.node (-1) pv pk::ps)),.d (qaa .sub ts)],some [.d (qaO .sub rest)],some [.d (.int .i64 (-1)),.d (.int .i64 pv),.d (qaa .sub pk)],some [.d (.int .i64 0),.d (.int .i64 0),.d (qaa .sub [])]]⟩=
  some (.normal,⟨[(3,.d (binds .sub u)),(4,.ptr N 0),(5,.ptr (N+1) 0),(8,.ptr (N+3) 0),(9,.fn 327 [.ptr N 0,.ptr (N+1) 0,.ptr (N+2) 0]),(17,.d (.int .i64 (i+1+1:Nat)))],
   Qs (i+1)++some [.ptr k 0]::some [.d (.bool true),.d (.int .i64 f),.d (qaa .sub (.node (-1) pv pk::ps)),.d (qaa .sub ts)]::some [.d (qaO .sub rest)]::some [.d (.int .i64 (-1)),.d (.int .i64 pv),.d (qaa .sub pk)]::some [.d (.int .i64 0),.d (.int .i64 0),.d (qaa .sub [])]::e⟩):=by
 have h4096:2^ts.length<=2^12:=Nat.pow_le_pow_right (by omega) htl;have hsh:=qtp ts.length (by omega);have hlt:((i+1:Nat):Int)<((2^ts.length:Nat):Int):=by omega
 have hw:=qai (n:=i+1) (by omega);have hq:=hN i;have hq1:=hN (i+1);have hbl:=qDE ts (i+1) u N (Qs i++[some [.ptr k 0],some [.d (.bool true),.d (.int .i64 f),.d (qaa .sub (.node (-1) pv pk::ps)),.d (qaa .sub ts)],some [.d (qaO .sub rest)],some [.d (.int .i64 (-1)),.d (.int .i64 pv),.d (qaa .sub pk)],some [.d (.int .i64 0),.d (.int .i64 0),.d (qaa .sub [])]]) (by simp[hq]) (by omega) (by omega);have hd:=hD i [some [.ptr k 0],some [.d (.bool true),.d (.int .i64 f),.d (qaa .sub (.node (-1) pv pk::ps)),.d (qaa .sub ts)],some [.d (qaO .sub rest)],some [.d (.int .i64 (-1)),.d (.int .i64 pv),.d (qaa .sub pk)],some [.d (.int .i64 0),.d (.int .i64 0),.d (qaa .sub [])]];rw[hnd]at hd;have hmk:=quk s hs f (onB ts (i+1) ts.length) (hcn _);have hpu:=qBW .sub .sub (by simp) (by simp) u pv (qdN s f (onB ts (i+1) ts.length)) [] hu;have hgo:=qKg f (.node (-1) pv pk) ps ts (qfD ts (i+1) ts.length) [] rest (qgT u pv (qdN s f (onB ts (i+1) ts.length))) k (Qs i) (Qs (i+1)) [some [.d (.int .i64 (-1)),.d (.int .i64 pv),.d (qaa .sub pk)],some [.d (.int .i64 0),.d (.int .i64 0),.d (qaa .sub [])]] (by omega) (by omega) (by simp;omega) (by omega) (by simpa using hrec);rw[hq]at hgo;have hg:∀e,(Qs i++e)[k]?=some (some (.d (sg s)::tl i)):=fun e=>by rw[ye_ (by omega)];exact hbx i
 have hx:∀h,(Qs i)[k]'h=some (.d (sg s)::tl i):=fun h=>by have:=hbx i;rw[List.getElem?_eq_getElem h]at this;simpa using this
 have hx2:∀e h,(Qs i++e)[k]'h=some (.d (sg s)::tl i):=fun e h=>by rw[List.getElem_append_left (by omega)];exact hx _
 have hk1:k<N+5:=by omega
 have hki:k<(Qs i).length:=by omega
 have n0:¬(N+5<=N):=by omega
 have n1:¬(N+5<=N+1):=by omega
 have n3:¬(N+5<=N+3):=by omega
 have nk:¬(N+5<=k):=by omega
 simp only[qub]at hbl⊢
 refine⟨[],?_⟩;generalize qgT u pv (qdN s f (onB ts (i+1) ts.length))=u2 at*
 generalize qdN s f (onB ts (i+1) ts.length)=mk at*
 generalize onB ts (i+1) ts.length=on at*
 generalize qfD ts (i+1) ts.length=off at*
 generalize ((2^ts.length:Nat):Int)=M at*
 generalize ((i+1:Nat):Int)=m at*
 generalize ((i+1+1:Nat):Int)=m2 at*
 simp only[qaO,List.map_nil]at hgo;simp[qmB,qcE,qcD,qcC,qcB,qcA,qcz,qcy,qcx,qcw,qcv,qbU,qbL,qbK,qbJ,qbI,qbH,qbG,qbF,qbE,qbD,qbC,qbB,qbz,qby,qbx,qbw,qbv,qbu,qbt,qbs,qbT,qbA,hsh,hlt,hd,gA0 hq,gA1 hq,gA2 hq,gA3 hq,hk1,hq,splice];rw[hbl];simp[qmB,qcE,qcD,qcC,qcB,qcA,qcz,qcy,qcx,qcw,qcv,qbU,qbL,qbK,qbJ,qbI,qbH,qbG,qbF,qbE,qbD,qbC,qbB,qbz,qby,qbx,qbw,qbv,qbu,qbt,qbs,qbT,qbA,hg,hx,hx2,hk1,hki,n0,n1,n3,nk,hq,hq1,gA0 hq,gA1 hq,gA2 hq,gA3 hq,hmk,hpu,hgo,hw,splice]
theorem qx0(s:List SymL)(hs:s.length<=1099511627776)(f:Int)(pv:Int)(pk ps ts:List T)(rest:List Gl)(u:List Bd)(k:Nat)(Qs:Nat->qao)(D:Nat->Bool)(N:Nat)(hN:∀i,(Qs i).length=N)(hk:k<N)(hl:rest.length<=1000000000)(hp:ps.length<=1000000000)(htl:ts.length<=12)(hu:u.length<=1099511627776)
 (hD:∀i e,qac XV 319 [.ptr k 0] (Qs i++e)=some (.d (.bool (D i)),Qs i++e)) (tl:Nat->List AV) (hbx:∀i,(Qs i)[k]?=some (some (.d (sg s)::tl i))) (hcn:∀m,qcm (onB ts m ts.length)<=1099511627776)
 (hb:qbV u pv=none) (hDs:∀i,D i=true->D (i+1)=true) (hst:∀i,D i=true->Qs (i+1)=Qs i)
 (hrec:∀i,i+1<2^ts.length->D i=false->∀e,qac XV 318 [.ptr k 0,.d (qaO .sub (qa7 f ps (qfD ts (i+1) ts.length)::rest)),.d (binds .sub (qgT u pv (qdN s f (onB ts (i+1) ts.length))))] (Qs i++e)=some (.d (.tup []),Qs (i+1)++e)):
 qac XV 321 [.ptr k 0,.d ((Gl.mk true f (.node (-1) pv pk::ps) ts).enc .sub),.d (qaO .sub rest),.d (binds .sub u)] (Qs 0)=some (.d (.tup []),Qs (2^ts.length-1)):=by
 rw[qah XV _ _ _ qqv rfl qhB rfl];have h1:=qd7 (.node (-1) pv pk);simp only[T.qaW,BEq.rfl]at h1;have h2:=qku u pv hu;rw[hb]at h2;simp only at h2;have hpow:1<=2^ts.length:=Nat.one_le_two_pow;have h4096:2^ts.length<=2^12:=Nat.pow_le_pow_right (by omega) htl;have hsh:=qtp ts.length (by omega);have hk1:k<N+5:=by omega
 have h:=qal (X:=XV) (T:=XV.lin 321) (L:=N+5) (live:=[3,4,5,8,9,17]) (b:=qmB) (n:=2^ts.length-1) (γ:=Nat)
  (st:=fun(_:Unit) i=>⟨[(3,.d (binds .sub u)),(4,.ptr N 0),(5,.ptr (N+1) 0),(8,.ptr (N+3) 0),(9,.fn 327 [.ptr N 0,.ptr (N+1) 0,.ptr (N+2) 0]),(17,.d (.int .i64 (i+1:Nat)))],Qs i++[some [.ptr k 0],some [.d (.bool true),.d (.int .i64 f),.d (qaa .sub (.node (-1) pv pk::ps)),.d (qaa .sub ts)],some [.d (qaO .sub rest)],some [.d (.int .i64 (-1)),.d (.int .i64 pv),.d (qaa .sub pk)],some [.d (.int .i64 0),.d (.int .i64 0),.d (qaa .sub [])]]⟩) (step:=qAm D)
  (F:=fun _=>(.exit 2,⟨[(3,.d (binds .sub u)),(4,.ptr N 0),(5,.ptr (N+1) 0),(8,.ptr (N+3) 0),(9,.fn 327 [.ptr N 0,.ptr (N+1) 0,.ptr (N+2) 0]),(17,.d (.int .i64 (2^ts.length-1+1:Nat))),(103,.d (.bool false))],Qs (2^ts.length-1)++[some [.ptr k 0],some [.d (.bool true),.d (.int .i64 f),.d (qaa .sub (.node (-1) pv pk::ps)),.d (qaa .sub ts)],some [.d (qaO .sub rest)],some [.d (.int .i64 (-1)),.d (.int .i64 pv),.d (qaa .sub pk)],some [.d (.int .i64 0),.d (.int .i64 0),.d (qaa .sub [])]]⟩)) (R:=fun i=>(.exit 2,⟨[(3,.d (binds .sub u)),(4,.ptr N 0),(5,.ptr (N+1) 0),(8,.ptr (N+3) 0),(9,.fn 327 [.ptr N 0,.ptr (N+1) 0,.ptr (N+2) 0]),(17,.d (.int .i64 (i+1:Nat))),(103,.d (.bool false))],Qs i++[some [.ptr k 0],some [.d (.bool true),.d (.int .i64 f),.d (qaa .sub (.node (-1) pv pk::ps)),.d (qaa .sub ts)],some [.d (qaO .sub rest)],some [.d (.int .i64 (-1)),.d (.int .i64 pv),.d (qaa .sub pk)],some [.d (.int .i64 0),.d (.int .i64 0),.d (qaa .sub [])]]⟩))
  (fun a=>⟨by simp,by
   have hlt:¬((2^ts.length-1+1:Nat):Int)<((2^ts.length:Nat):Int):=by omega
   have hq:=hN (2^ts.length-1);generalize ((2^ts.length:Nat):Int)=M at*
   generalize ((2^ts.length-1+1:Nat):Int)=m at*
   generalize Qs (2^ts.length-1)=Q at*
   simp[qmB,qcE,qcD,qcC,qcB,qcA,qcz,qcy,qcx,qcw,qcv,qbU,qbL,qbK,qbJ,qbI,qbH,qbG,qbF,qbE,qbD,qbC,qbB,qbz,qby,qbx,qbw,qbv,qbu,qbt,qbs,qbT,qbA,hsh,hlt,gA0 hq,gA1 hq,hk1,hq]⟩)
  (fun a i hi=>by
   have hq:=hN i;have hq1:=hN (i+1);unfold qAm;cases hd0:D i with
   |true=>
    have hd:=hD i [some [.ptr k 0],some [.d (.bool true),.d (.int .i64 f),.d (qaa .sub (.node (-1) pv pk::ps)),.d (qaa .sub ts)],some [.d (qaO .sub rest)],some [.d (.int .i64 (-1)),.d (.int .i64 pv),.d (qaa .sub pk)],some [.d (.int .i64 0),.d (.int .i64 0),.d (qaa .sub [])]];rw[hd0]at hd;have hlt:(i:Int)+1<((2^ts.length:Nat):Int):=by omega
    generalize ((2^ts.length:Nat):Int)=M at*
    exact⟨by simp,by simp[qmB,qcE,qcD,qcC,qcB,qcA,qcz,qcy,qcx,qcw,qcv,qbU,qbL,qbK,qbJ,qbI,qbH,qbG,qbF,qbE,qbD,qbC,qbB,qbz,qby,qbx,qbw,qbv,qbu,qbt,qbs,qbT,qbA,hsh,hlt,hd,gA0 hq,gA1 hq,hk1,hq]⟩
   |false=>
    obtain⟨e,he⟩:=qke s hs f pv pk ps ts rest u k Qs D N hN hk hl hp htl hu hD tl hbx hcn i (by omega) hd0 (hrec i (by omega) hd0);refine⟨_,he,?_⟩;simp[qad,qab,tA5 hq1,hq1])
  (2^ts.length-1) () 0 ⟨[(3,.d (binds .sub u)),(4,.ptr N 0),(5,.ptr (N+1) 0),(8,.ptr (N+3) 0),(9,.fn 327 [.ptr N 0,.ptr (N+1) 0,.ptr (N+2) 0]),(17,.d (.int .i64 1))],Qs 0++[some [.ptr k 0],some [.d (.bool true),.d (.int .i64 f),.d (qaa .sub (.node (-1) pv pk::ps)),.d (qaa .sub ts)],some [.d (qaO .sub rest)],some [.d (.int .i64 (-1)),.d (.int .i64 pv),.d (qaa .sub pk)],some [.d (.int .i64 0),.d (.int .i64 0),.d (qaa .sub [])]]⟩ (by omega) (by simp[qad,qab,tA5 (hN 0),hN 0])
 have hrun:∀n i,match runN (qAm D) n () i with| .inl _=>True| .inr j=>Qs j=Qs (i+n):=by
  intro n
  induction n with
  |zero=>intro i;trivial
  |succ n ih=>
   intro i;simp only[runN,qAm];cases hd0:D i with
   |true=>
    simp only[if_true];have:∀m,D (i+m)=true/\Qs (i+m)=Qs i:=fun m=>by
     induction m with
     |zero=>exact⟨hd0,rfl⟩
     |succ m ihm=>exact⟨hDs _ ihm.1,by rw[<-Nat.add_assoc,hst _ ihm.1,ihm.2]⟩
    exact(this (n+1)).2.symm
   |false=>
    simp only[Bool.false_eq_true,if_false];have:=ih (i+1);rwa[show i+1+n=i+(n+1)by omega]at this
 have hr:=hrun (2^ts.length-1) 0;have hq:=hN 0;have hp1:(((ps.length:Int)+1)==0)=false:=by simp;omega
 have hk2:k<N+4:=by omega
 have hk3:k<N+3:=by omega
 have hq9:=hN (2^ts.length-1);simp only[qub]at h;simp[qqv,qcE,qcD,qcC,qcB,qcA,qcz,qcy,qcx,qcw,qcv,qbU,qbL,qbK,qbJ,qbI,qbH,qbG,qbF,qbE,qbD,qbC,qbB,qbz,qby,qbx,qbw,qbv,qbu,qbt,qbs,qbT,qbA,h1,h2,hp1,hk,hk1,hk2,hk3,hq,gA0 hq,gA1 hq,gA2 hq,gA3 hq,gA4 hq,sA4 hq,tA5 hq,splice,cut];rw[h];cases hrn:runN (qAm D) (2^ts.length-1) () 0 with
 |inl a=>simp[qqv,qcE,qcD,qcC,qcB,qcA,qcz,qcy,qcx,qcw,qcv,qbU,qbL,qbK,qbJ,qbI,qbH,qbG,qbF,qbE,qbD,qbC,qbB,qbz,qby,qbx,qbw,qbv,qbu,qbt,qbs,qbT,qbA,hk,hk1,hq9]
 |inr j=>
  rw[hrn]at hr;simp only[Nat.zero_add]at hr;simp[qqv,qcE,qcD,qcC,qcB,qcA,qcz,qcy,qcx,qcw,qcv,qbU,qbL,qbK,qbJ,qbI,qbH,qbG,qbF,qbE,qbD,qbC,qbB,qbz,qby,qbx,qbw,qbv,qbu,qbt,qbs,qbT,qbA,hk,hk1,hr,hq9]
mutual
def T.nf(s:List SymL):T->Prop
 | .node f v ks=>T.nfs s ks/\(qaK s f=true->(∀k,k∈ks->k.f≠f)/\Srt ks)
def T.nfs(s:List SymL):List T->Prop
 | []=>True
 |t::r=>t.nf s/\T.nfs s r
end
theorem T.qmI(s:List SymL):∀l:List T,T.nfs s l↔∀t,t∈l->t.nf s
 | []=>by simp[T.nfs]
 |t::r=>by simp[T.nfs,T.qmI s r]
theorem qCL(s:List SymL)(f:Int)(l:List T)(t:T):t∈flatK s f l↔∃k,k∈l/\t∈qwI s f k:=by unfold flatK;simp
mutual
theorem qt7(s:List SymL):∀t:T,(t.norm s).nf s
 | .node f v ks=>by
  have hN:=qvV s ks;rw[T.qmI]at hN;simp only[T.norm,T.nf]
  by_cases hb:qaK s f=true
  ·simp only[hb,if_true]
   have hK:∀e,e∈flatK s f (T.norms s ks)->e.nf s/\e.f≠f:=fun e he=>by
    obtain⟨k,h1,h2⟩:=(qCL s f _ e).1 he;have h3:=hN k h1;unfold qwI at h2
    by_cases hk:k.f=f
    ·have:(qaK s f&&k.f==f)=true:=by simp[hb,hk]
     rw[if_pos this]at h2;obtain⟨f',v',ks'⟩:=k;simp only[T.qaW]at hk;subst hk;simp only[T.nf,T.qaQ]at h3 h2;exact⟨(T.qmI s ks').1 h3.1 e h2,(h3.2 hb).1 e h2⟩
    ·have:(qaK s f&&k.f==f)=false:=by simp[hk]
     rw[this]at h2;simp at h2;subst h2
     exact⟨h3,hk⟩
   refine⟨?_,fun _=>⟨fun e he=>(hK e ((qez _).mem_iff.1 he)).2,qr2 _⟩⟩;rw[T.qmI];exact fun e he=>(hK e ((qez _).mem_iff.1 he)).1
  ·simp only[hb,Bool.false_eq_true,if_false]
   refine⟨?_,fun h=>absurd h id⟩;rw[T.qmI,qmc s f hb];exact hN
theorem qvV(s:List SymL):∀l:List T,T.nfs s (T.norms s l)
 | []=>by simp[T.norms,T.nfs]
 |t::r=>by simp only[T.norms,T.nfs];exact⟨qt7 s t,qvV s r⟩
end
theorem qm1:∀l:List T,(∀i,0<i->i<l.length->¬T.cmp (tAt l i) (tAt l (i-1))<0)->Srt l
 | [],_=>List.Pairwise.nil
 | [a],_=>List.pairwise_singleton _ _
 |a::b::r,h=>by
  have ih:=qm1 (b::r) (fun i h0 hi=>by
   have:=h (i+1) (by omega) (by simpa using hi);have e:∀j,tAt (a::b::r) (j+1)=tAt (b::r) j:=fun j=>by simp[tAt]
   rw[e i,show i+1-1=(i-1)+1 by omega,e (i-1)]at this;exact this)
  have h0:=h 1 (by omega) (by simp);simp only[tAt,List.getElem?_cons_succ,List.getElem?_cons_zero,Option.getD_some,Nat.sub_self]at h0;have hab:tle a b:=qcn h0;refine List.pairwise_cons.2 ⟨fun y hy=> ?_,ih⟩;rcases List.mem_cons.1 hy with rfl|hy
  ·exact hab
  ·exact qge hab ((List.pairwise_cons.1 ih).1 y hy)
theorem qwt{l:List SymL}{f:Int}(h:qaK l f=true):(qax l f.toNat).ac=true:=by
 unfold qaK at h;simp only[Bool.and_eq_true]at h;exact h.2
theorem qsk(q:Nat->Bool)(n:Nat)(h:(qau q n 0).isNone=true):∀i,i<n->q i=false:=fun i hi=>by
 have:=(qhr q n 0).2 (by simpa using h) i (by omega) (by omega);exact this
mutual
theorem qp7(l:List SymL):∀t:T,T.form l t=true->t.nf l
 | .node f v ks,h=>by
  simp only[T.form]at h;simp only[T.nf]
  by_cases hf:f= -1
  ·rw[if_pos hf]at h
   have hk:ks=[]:=by
    simp only[Bool.and_eq_true,decide_eq_true_eq]at h;exact List.eq_nil_of_length_eq_zero h.2
   subst hk;exact⟨trivial,fun _=>⟨fun k hk=>by simp at hk,List.Pairwise.nil⟩⟩
  ·rw[if_neg hf]at h
   split at h
   ·simp at h
   ·have hq:=qsk _ _ h
    have hat:∀i,i<ks.length->T.form l (tAt ks i)=true/\qdX l f ks i=false:=fun i hi=>by
     have:=hq i hi;rw[T.qqu l ks i hi]at this;simpa using this
    refine⟨qwd l ks (fun i hi=>(hat i hi).1),fun hb=>⟨fun k hk=> ?_,qm1 ks fun i h0 hi=> ?_⟩⟩
    ·obtain⟨i,hi,rfl⟩:=List.getElem_of_mem hk
     have h2:=(hat i hi).2;rw[qan hi];unfold qdX at h2;rw[if_pos (qwt hb)]at h2;intro he;rw[if_pos he]at h2;simp at h2
    ·have h2:=(hat i hi).2
     unfold qdX at h2;rw[if_pos (qwt hb)]at h2;split at h2
     ·simp at h2
     ·rw[if_neg (by omega)]at h2
      simpa using h2
theorem qwd(l:List SymL):∀ks:List T,(∀i,i<ks.length->T.form l (tAt ks i)=true)->T.nfs l ks
 | [],_=>trivial
 |t::r,h=>⟨qp7 l t (by have:=h 0 (by simp);simpa[tAt]using this),qwd l r fun i hi=>by have:=h (i+1) (by simpa using hi);simpa[tAt]using this⟩
end
theorem qws{s:List SymL}{f:Int}(h:qaK s f=true):qen s f=true:=by
 unfold qaK at h;simp only[Bool.and_eq_true]at h;exact h.1
def qbp(s:List SymL):List Gl->List Bd->List (List Gl×List Bd)
 | [],_=>[]
 |⟨true,f,ps,ts⟩::rest,u=>(match ps with
  | []=>if ts.length=0 then [(rest,u)]else []
  |p::ps=>if p.f= -1 then(match qbV u p.v with
   |some j=>(match takeN ts (partsOf f (bAt u j).t)with
    | .inl r=>[(qa7 f ps r::rest,u)]
    | .inr _=>[])
   |none=>(List.range (2^ts.length-1)).map fun m=>(qa7 f ps (qfD ts (m+1) ts.length)::rest,qgT u p.v (qdN s f (onB ts (m+1) ts.length))))
   else(List.range ts.length).map fun i=>(qb1 p (tAt ts i)::qa7 f ps (qbj ts i)::rest,u))
 |⟨false,f,ps,ts⟩::rest,u=>(if(tAt ps 0).f= -1 then(match qbV u (tAt ps 0).v with
  |none=>[(rest,qgT u (tAt ps 0).v (tAt ts 0))]
  |some j=>if T.cmp (bAt u j).t (tAt ts 0)==0 then [(rest,u)]else [])
  else if(tAt ps 0).f≠(tAt ts 0).f then []
  else if qaK s (tAt ps 0).f=true then [(qa7 (tAt ps 0).f (tAt ps 0).kids (tAt ts 0).kids::rest,u)]
  else if(tAt ps 0).kids.length≠(tAt ts 0).kids.length then []
  else [(qbd (tAt ps 0).kids (tAt ts 0).kids (tAt ps 0).kids.length++rest,u)])
theorem qaZ(s:List SymL)(f:Int)(p t:T)(rest:List Gl)(u:List Bd):qbp s (⟨false,f,[p],[t]⟩::rest) u=
 (if p.f= -1 then(match qbV u p.v with
  |none=>[(rest,qgT u p.v t)]
  |some j=>if T.cmp (bAt u j).t t==0 then [(rest,u)]else [])
 else if p.f≠t.f then []
 else if qaK s p.f=true then [(qa7 p.f p.kids t.kids::rest,u)]
 else if p.kids.length≠t.kids.length then []
 else [(qbd p.kids t.kids p.kids.length++rest,u)]):=rfl
theorem qmh(s:List SymL)(n:Nat)(u:List Bd):evs s (n+1) [] u=[none,some u]:=rfl
theorem qh8(s:List SymL)(n:Nat)(g:Gl)(rest:List Gl)(u:List Bd):evs s (n+1) (g::rest) u=none::(qbp s (g::rest) u).flatMap fun c=>evs s n c.1 c.2:=by
 obtain⟨m,f,ps,ts⟩:=g;cases m with
 |true=>
  cases ps with
  |nil=>
   by_cases c:ts.length=0
   ·simp[evs,qbp,c]
   ·simp[evs,qbp,c]
  |cons p ps=>
   simp only[evs,qbp]
   by_cases c:p.f= -1
   ·rw[if_pos c,if_pos c]
    cases qbV u p.v with
    |none=>simp only[List.flatMap_map]
    |some j=>
     simp only;cases takeN ts (partsOf f (bAt u j).t)<;>simp
   ·rw[if_neg c,if_neg c]
    simp only[List.flatMap_map]
 |false=>
  simp only[evs,qbp]
  by_cases c:(tAt ps 0).f= -1
  ·rw[if_pos c,if_pos c]
   cases qbV u (tAt ps 0).v with
   |none=>simp
   |some j=>
    simp only;split<;>simp
  ·rw[if_neg c,if_neg c]
   split
   ·simp
   ·split
    ·simp
    ·split
     ·simp
     ·simp[qbd]
def Gl.good(s:List SymL)(g:Gl):Prop:=
 qcm g.ts<=1000/\(∀x,x∈g.ts->qem x=false/\T.form s x=true)/\(∀x,x∈g.ps->T.form s x=true)/\(g.many=true->g.ts.length<=12/\qaK s g.f=true/\(∀x,x∈g.ts->x.f≠g.f)/\∀x,x∈g.ps->x.f≠g.f)/\(g.many=false->∃p t,g.ps=[p]/\g.ts=[t])
structure Inv(s:List SymL)(gl:List Gl)(u:List Bd):Prop where
 g:∀g,g∈gl->g.good s
 b:∀b,b∈u->b.t.inner<=1000/\b.t.nf s
 m:u.length+qef gl<=1000000
theorem qaN(g:Gl)(l:List Gl):qef (g::l)=glW g+qef l:=rfl
theorem qfX(a b:List Gl):qef (a++b)=qef a+qef b:=by unfold qef;rw[List.map_append,List.sum_append]
theorem qfb(f:Int)(ps ts:List T):glW (qa7 f ps ts)=1+3*qcm ps:=rfl
theorem qh0(p t:T):glW (qb1 p t)=3*p.inner+2:=rfl
theorem qiS:∀l:List Gl,l.length<=qef l
 | []=>Nat.le_refl _
 |g::l=>by
  have h:=qiS l;rw[qaN];have:1<=glW g:=by unfold glW;split<;>omega
  simp only[List.length_cons];omega
theorem Inv.small{s:List SymL}{gl:List Gl}{u:List Bd}(h:Inv s gl u):small u:=
 ⟨by have:=h.m;omega,fun i hi=>by have:=(h.b _ (qKS hi)).1;omega⟩
theorem qCI{s:List SymL}{f v:Int}{ks:List T}(h:T.form s (.node f v ks)=true)(hf:f≠-1):qct s f v ks.length=false/\∀k,k∈ks->T.form s k=true:=by
 cases hb:qct s f v ks.length with
 |true=>simp[T.form,hf,hb]at h
 |false=>
  refine⟨rfl,fun k hk=> ?_⟩;rw[qsd s f v ks hf hb]at h;obtain⟨i,hi,rfl⟩:=List.getElem_of_mem hk;rw[qan hi];cases hq:T.form s (tAt ks i)with
  |true=>rfl
  |false=>
   have:=(qh6 (fun i=> !T.form s (tAt ks i)||qdX s f ks i) ks.length 0).2 ⟨i,Nat.zero_le _,by omega,by simp[hq]⟩;rw[Option.isNone_iff_eq_none]at h;rw[h]at this;cases this
theorem qF2{s:List SymL}{f v w:Int}{n m:Nat}(h1:qct s f v n=false)(h2:qct s f w m=false)(hb:qaK s f=false):n=m:=by
 unfold qct at h1 h2;unfold qaK at hb
 by_cases hs:qen s f=true
 ·rw[hs,Bool.true_and]at hb
  rw[if_pos hs]at h1 h2
  by_cases hv:v=0
  ·by_cases hw:w=0
   ·simp[hb,hv]at h1
    simp[hb,hw]at h2;omega
   ·simp[hw]at h2
  ·simp[hv]at h1
 ·simp[hs]at h1
theorem qAa{f v:Int}{ks:List T}(h:qem (.node f v ks)=false):ks.length<=12/\∀k,k∈ks->qem k=false:=by
 simp only[qem,Bool.or_eq_false_iff,decide_eq_false_iff_not,qiv,List.any_eq_false]at h;exact⟨by omega,fun k hk=>by simpa using h.2 k hk⟩
theorem qgX{s:List SymL}{p:T}(h:T.form s p=true)(hf:p.f≠-1):qct s p.f p.v p.kids.length=false/\∀k,k∈p.kids->T.form s k=true:=by
 obtain⟨f,v,ks⟩:=p;exact qCI h hf
theorem qw4{t:T}(h:qem t=false):t.kids.length<=12/\∀k,k∈t.kids->qem k=false:=by
 obtain⟨f,v,ks⟩:=t;exact qAa h
theorem qvW{s:List SymL}{t:T}(h:t.nf s)(hb:qaK s t.f=true):(∀k,k∈t.kids->k.f≠t.f)/\Srt t.kids:=by
 obtain⟨f,v,ks⟩:=t;simp only[T.nf]at h;exact h.2 hb
theorem qFR(s:List SymL)(f:Int)(ks:List T)(hb:qaK s f=true):(qdN s f ks).nf s:=by
 unfold qdN;split
 ·simp only[T.nf,T.nfs,true_and]
  exact fun _=>⟨fun k hk=>by(cases hk),List.Pairwise.nil⟩
 ·split
  ·exact qt7 s _
  ·rw[if_pos (qws hb)];exact qt7 s _
theorem qg0{a b:List T}(h:a.Sublist b):qcm a<=qcm b:=by
 induction h with
 |slnil=>exact Nat.le_refl _
 |cons x _ ih=>rw[qaJ];omega
 |cons_cons x _ ih=>rw[qaJ,qaJ];omega
theorem qoS(l:List T)(j:Nat):(qbj l j).Sublist l:=by
 unfold qbj;rw[<-List.eraseIdx_eq_take_drop_succ];exact List.eraseIdx_sublist l j
theorem qqQ:∀(xs l r:List T),takeN l xs= .inl r->r.Sublist l
 | [],l,r,h=>by simp only[takeN,Sum.inl.injEq]at h;subst h;exact List.Sublist.refl _
 |x::xs,l,r,h=>by
  unfold takeN at h;cases hf:qau (qdO l x) l.length 0 with
  |none=>rw[hf]at h;cases h
  |some j=>rw[hf]at h;exact(qqQ xs _ r h).trans (qoS l j)
theorem qiw(l:List T)(i:Nat)(h:i<l.length):l.take (i+1)=l.take i++[tAt l i]:=by
 rw[List.take_add_one,qkB h];rfl
theorem qt5(l:List T)(m:Nat):∀i,i<=l.length->(onB l m i).Sublist (l.take i)
 |0,_=>List.nil_sublist _
 |i+1,h=>by
  rw[qiw l i h];unfold onB;split
  ·exact(qt5 l m i (by omega)).append (List.Sublist.refl _)
  ·exact(qt5 l m i (by omega)).trans (List.sublist_append_left _ _)
theorem qpU(l:List T)(m:Nat):∀i,i<=l.length->(qfD l m i).Sublist (l.take i)
 |0,_=>List.nil_sublist _
 |i+1,h=>by
  rw[qiw l i h];unfold qfD;split
  ·exact(qpU l m i (by omega)).trans (List.sublist_append_left _ _)
  ·exact(qpU l m i (by omega)).append (List.Sublist.refl _)
theorem qpP(l:List T)(m:Nat):(onB l m l.length).Sublist l:=by have:=qt5 l m l.length (Nat.le_refl _);rwa[List.take_length]at this
theorem qB5(l:List T)(m:Nat):(qfD l m l.length).Sublist l:=by have:=qpU l m l.length (Nat.le_refl _);rwa[List.take_length]at this
theorem qF5{s:List SymL}{f:Int}{p:T}{ps ts r:List T}(h:(Gl.mk true f (p::ps) ts).good s)(hr:r.Sublist ts):(qa7 f ps r).good s:=
 ⟨Nat.le_trans (qg0 hr) h.1,fun x hx=>h.2.1 x (hr.subset hx),fun x hx=>h.2.2.1 x (List.mem_cons_of_mem _ hx),fun _=>⟨Nat.le_trans hr.length_le (h.2.2.2.1 rfl).1,(h.2.2.2.1 rfl).2.1,fun x hx=>(h.2.2.2.1 rfl).2.2.1 x (hr.subset hx),fun x hx=>(h.2.2.2.1 rfl).2.2.2 x (List.mem_cons_of_mem _ hx)⟩,fun e=>by(cases e)⟩
theorem qvO(u:List Bd)(v:Int)(t:T):(qgT u v t).length=u.length+1:=by
 unfold qgT;have:qmA u v<=u.length:=List.findIdx_le_length;simp;omega
theorem qvN{u:List Bd}{v:Int}{t:T}{b:Bd}(h:b∈qgT u v t):b=⟨v,t⟩\/b∈u:=by
 unfold qgT at h;rcases List.mem_append.1 h with h|h
 ·exact .inr (List.mem_of_mem_take h)
 ·rcases List.mem_cons.1 h with h|h
  ·exact .inl h
  ·exact .inr (List.mem_of_mem_drop h)
theorem qvS(ps ts:List T):∀n,n<=ps.length->qef (qbd ps ts n)+n=3*qcm (ps.take n)
 |0,_=>by simp[qbd,qef,qcm,T.inners]
 |n+1,h=>by
  rw[qlT,qfX,qiw ps n h,qhv,qaN,qh0];have:=qvS ps ts n (by omega);have e:qcm [tAt ps n]=(tAt ps n).inner+1:=by rw[qaJ];simp[qcm,T.inners]
  have e2:qef []=0:=rfl;omega
theorem qeZ{s:List SymL}{gl:List Gl}{u:List Bd}(h:Inv s gl u)(c:List Gl×List Bd)(hc:c∈qbp s gl u):Inv s c.1 c.2/\qef c.1<qef gl:=by
 match gl,h,hc with
 | [],h,hc=>simp[qbp]at hc
 |⟨true,f,ps,ts⟩::rest,h,hc=>
  have hm:=h.m;have hg:=h.g _ (List.mem_cons_self ..);have hr:∀g,g∈rest->g.good s:=fun g hg=>h.g g (List.mem_cons_of_mem _ hg)
  rw[qaN]at hm⊢
  cases ps with
  |nil=>
   have e:glW ⟨true,f,[],ts⟩=1:=rfl;simp only[qbp]at hc;split at hc
   ·rw[List.mem_singleton]at hc;subst hc
    exact⟨⟨hr,h.b,by simp only;omega⟩,by simp only;omega⟩
   ·cases hc
  |cons p ps=>
   have e:glW ⟨true,f,p::ps,ts⟩=1+3*(p.inner+1+qcm ps):=by rw[<-qaJ];rfl
   simp only[qbp]at hc;have hmany:∀r:List T,r.Sublist ts->∀g,g∈qa7 f ps r::rest->g.good s:=fun r hrs g hg'=>by
    rcases List.mem_cons.1 hg' with rfl|hg'
    ·exact qF5 hg hrs
    ·exact hr g hg'
   split at hc
   ·split at hc
    ·rename_i j hj
     split at hc
     ·rename_i r hrr
      rw[List.mem_singleton]at hc;subst hc
      simp only[qaN,qfb];exact⟨⟨hmany r (qqQ _ _ _ hrr),h.b,by simp only[qaN,qfb];omega⟩,by omega⟩
     ·cases hc
    ·obtain⟨m,_,rfl⟩:=List.mem_map.1 hc
     simp only[qaN,qfb];refine⟨⟨hmany _ (qB5 ts (m+1)),fun b hb=> ?_,?_⟩,by omega⟩
     ·rcases qvN hb with rfl|hb
      ·have h1:=qlZ s f (onB ts (m+1) ts.length)
       have h2:=qg0 (qpP ts (m+1));have h3:=hg.1;simp only at h3⊢
       exact⟨by omega,qFR s f _ (hg.2.2.2.1 rfl).2.1⟩
      ·exact h.b b hb
     ·simp only[qaN,qfb,qvO];omega
   ·obtain⟨i,hi,rfl⟩:=List.mem_map.1 hc
    have hi:=List.mem_range.1 hi;simp only[qaN,qfb,qh0];refine⟨⟨fun g hg'=> ?_,h.b,?_⟩,by omega⟩
    ·rcases List.mem_cons.1 hg' with rfl|hg'
     ·have h1:=qbi (qav hi)
      have h2:=hg.1;have h3:(tAt ts i).inner+1<=qcm ts:=by
       have:=qg0 (List.singleton_sublist.2 (qav hi));rw[qaJ]at this;omega
      refine⟨?_,fun x hx=> ?_,fun x hx=> ?_,fun e=>by(cases e),fun _=>⟨_,_,rfl,rfl⟩⟩
      ·simp only[qb1,qaJ]
       have:qcm []=0:=rfl;simp only at h2;omega
      ·simp only[qb1,List.mem_singleton]at hx;subst hx;exact hg.2.1 _ (qav hi)
      ·simp only[qb1,List.mem_singleton]at hx;subst hx;exact hg.2.2.1 _ (List.mem_cons_self ..)
     ·exact hmany _ (qoS ts i) g hg'
    ·simp only[qaN,qfb,qh0];omega
 |⟨false,f,ps,ts⟩::rest,h,hc=>
  have hm:=h.m;have hg:=h.g _ (List.mem_cons_self ..);have hr:∀g,g∈rest->g.good s:=fun g hg=>h.g g (List.mem_cons_of_mem _ hg)
  rw[qaN]at hm⊢
  obtain⟨p,t,hp,ht⟩:=hg.2.2.2.2 rfl;simp only at hp ht;subst hp ht;have e:glW ⟨false,f,[p],[t]⟩=3*p.inner+2:=rfl;have hti:t.inner<=1000:=by have:=hg.1;simp only[qaJ]at this;omega
  rw[qaZ]at hc
  by_cases hv:p.f= -1
  ·rw[if_pos hv]at hc
   split at hc
   ·rw[List.mem_singleton]at hc;subst hc
    refine⟨⟨hr,fun b hb=> ?_,?_⟩,by simp only;omega⟩
    ·rcases qvN hb with rfl|hb
     ·exact⟨hti,qp7 s _ (hg.2.1 _ (List.mem_singleton.2 rfl)).2⟩
     ·exact h.b b hb
    ·simp only[qvO];omega
   ·split at hc
    ·rw[List.mem_singleton]at hc;subst hc
     exact⟨⟨hr,h.b,by simp only;omega⟩,by simp only;omega⟩
    ·cases hc
  ·rw[if_neg hv]at hc
   by_cases hff:p.f=t.f
   case neg=>rw[if_pos hff]at hc;cases hc
   case pos=>
    rw[if_neg (fun h=>h hff)]at hc;have hpf:=qgX (hg.2.2.1 _ (List.mem_singleton.2 rfl)) hv;have htf:=qgX (hg.2.1 _ (List.mem_singleton.2 rfl)).2 (by rw[<-hff];exact hv);have htw:=qw4 (hg.2.1 _ (List.mem_singleton.2 rfl)).1;have hpn:=qp7 s _ (hg.2.2.1 _ (List.mem_singleton.2 rfl));have htn:=qp7 s _ (hg.2.1 _ (List.mem_singleton.2 rfl)).2;have hpi:p.inner=qcm p.kids:=T.qg6 p;have hti2:t.inner=qcm t.kids:=T.qg6 t
    by_cases hbl:qaK s p.f=true
    ·rw[if_pos hbl,List.mem_singleton]at hc;subst hc
     simp only[qaN,qfb];refine⟨⟨fun g hg'=> ?_,h.b,?_⟩,by omega⟩
     ·rcases List.mem_cons.1 hg' with rfl|hg'
      ·refine⟨by simp only[qa7];omega,fun x hx=>⟨htw.2 x hx,htf.2 x hx⟩,hpf.2,fun _=>⟨htw.1,hbl,?_,?_⟩,fun e=>by(cases e)⟩
       ·rw[hff]at hbl⊢
        exact(qvW htn hbl).1
       ·exact(qvW hpn hbl).1
      ·exact hr g hg'
     ·simp only[qaN,qfb];omega
    ·rw[if_neg hbl]at hc
     by_cases hlen:p.kids.length=t.kids.length
     case neg=>rw[if_pos hlen]at hc;cases hc
     case pos=>
      rw[if_neg (fun h=>h hlen),List.mem_singleton]at hc;subst hc
      have hw:=qvS p.kids t.kids p.kids.length (Nat.le_refl _);rw[List.take_length]at hw;simp only[qfX];refine⟨⟨fun g hg'=> ?_,h.b,?_⟩,by omega⟩
      ·rcases List.mem_append.1 hg' with hg'|hg'
       ·unfold qbd at hg'
        obtain⟨i,hi,rfl⟩:=List.mem_map.1 hg';have hi:=List.mem_range.1 hi;have hit:i<t.kids.length:=by omega
        refine⟨?_,fun x hx=> ?_,fun x hx=> ?_,fun e=>by(cases e),fun _=>⟨_,_,rfl,rfl⟩⟩
        ·have h1:=qg0 (List.singleton_sublist.2 (qav hit))
         simp only[qb1];omega
        ·simp only[qb1,List.mem_singleton]at hx;subst hx
         exact⟨htw.2 _ (qav hit),htf.2 _ (qav hit)⟩
        ·simp only[qb1,List.mem_singleton]at hx;subst hx
         exact hpf.2 _ (qav hi)
       ·exact hr g hg'
      ·simp only[qfX];omega
theorem qCQ{s:List SymL}{P:List Gl->List Bd->Prop}(hP:∀gl u c,P gl u->c∈qbp s gl u->P c.1 c.2):∀(n:Nat) (gl:List Gl) (u w:List Bd),P gl u->some w∈evs s n gl u->P [] w
 |0,gl,u,w,_,h=>by simp[evs]at h
 |n+1,[],u,w,hp,h=>by
  rw[qmh]at h;simp at h;subst h;exact hp
 |n+1,g::rest,u,w,hp,h=>by
  rw[qh8]at h;simp only[List.mem_cons,List.mem_flatMap,reduceCtorEq,false_or]at h;obtain⟨c,hc,hw⟩:=h;exact qCQ hP n c.1 c.2 w (hP _ _ c hp hc) hw
theorem qmg{s:List SymL}(n:Nat){gl:List Gl}{u w:List Bd}(h:Inv s gl u)(hw:some w∈evs s n gl u):small w:=
 (qCQ (P:=Inv s) (fun gl u c hp hc=>(qeZ hp c hc).1) n gl u w h hw).small
structure MS.good(S:MS):Prop where
 o:S.over=decide (20000<S.steps)
 n:S.steps<=20001
 l:S.ways.length<=61
 w:∀w,w∈S.ways->small w
theorem MS.good.ev{S:MS}(h:S.good)(e:Option (List Bd))(he:∀w,e=some w->small w):(S.ev e).good:=by
 have hl:=S.qPv e h.l;unfold MS.ev at hl⊢
 split
 ·exact h
 ·rename_i hd
  rw[if_neg hd]at hl;cases e with
  |none=>
   refine⟨rfl,?_,h.l,h.w⟩;have h1:=h.o;have h2:=h.n;unfold MS.done at hd;simp only[Bool.or_eq_true,decide_eq_true_eq,not_or]at hd;have h3:¬20000<S.steps:=fun h4=>hd.1 (by rw[h1];simpa using h4)
   simp only;omega
  |some u=>
   simp only at hl⊢
   split
   ·exact h
   ·rename_i hh
    rw[if_neg hh]at hl;refine⟨h.o,h.n,hl,fun w hw=> ?_⟩;simp only[List.mem_append,List.mem_singleton]at hw;rcases hw with hw|hw
    ·exact h.w w hw
    ·exact he w (by rw[hw])
theorem MS.good.run:∀(es:List (Option (List Bd))) {S:MS},S.good->(∀w,some w∈es->small w)->(S.run es).good
 | [],S,h,_=>h
 |e::es,S,h,he=>MS.good.run es (S:=S.ev e) (h.ev e fun w hw=>he w (by rw[hw];exact List.mem_cons_self ..)) fun w hw=>he w (List.mem_cons_of_mem _ hw)
theorem qb4(pre r e:qao)(x:Option (List AV)):(pre++x::r)++e=pre++x::(r++e):=by simp
theorem quq(pre r:qao)(x:Option (List AV)):(pre++x::r)[pre.length]?=some x:=by simp
theorem qcb{α:Type}(F:Nat->List α)(n:Nat):(List.range (n+1)).flatMap F=(List.range n).flatMap F++F n:=by
 rw[List.range_succ,List.flatMap_append];simp
theorem qwg(s:List SymL)(hs:s.length<=1099511627776):∀(n:Nat) (gl:List Gl) (u:List Bd) (S:MS) (pre r:qao),Inv s gl u->qef gl<n->S.good->
 qac XV 318 [.ptr pre.length 0,.d (qaO .sub gl),.d (binds .sub u)] (pre++some (mB s S)::r)=some (.d (.tup []),pre++some (mB s (S.run (evs s n gl u)))::r)
 |0,gl,u,S,pre,r,hi,hn,hS=>absurd hn (Nat.not_lt_zero _)
 |n+1,gl,u,S,pre,r,hi,hn,hS=>by
  by_cases hd:S.done=true
  ·rw[S.qf5 hd];exact qCP s S gl u pre r hd
  have hd:S.done=false:=by simpa using hd
  by_cases ho:20000<S.steps+1
  ·have h:=qCN s S gl u pre r hd ho hS.n
   have hsd:S.step.done=true:=by unfold MS.step MS.done;simp[ho]
   have he:∃es,evs s (n+1) gl u=none::es:=by
    cases gl with
    |nil=>exact⟨_,qmh ..⟩
    |cons g rest=>exact⟨_,qh8 ..⟩
   obtain⟨es,he⟩:=he;rw[he,MS.qfi,MS.qgP S hd,S.step.qf5 hsd];exact h
  have ho:S.steps+1<=20000:=by omega
  have hsm:=hi.small;have hdd:=hd;unfold MS.done at hdd;simp only[Bool.or_eq_false_iff,decide_eq_false_iff_not]at hdd;have hSd:S.step.done=false:=by
   unfold MS.step MS.done;simp only[Bool.or_eq_false_iff,decide_eq_false_iff_not];exact⟨by omega,hdd.2⟩
  have hSg:S.step.good:=by rw[<-MS.qgP S hd];exact hS.ev none fun _ h=>by cases h
  match gl,hi,hn with
  | [],hi,hn=>
   rw[qmh,MS.qfi,MS.qgP S hd,MS.qfi,MS.quR _ hSd];exact qGe s S u pre r hd ho hS.w hsm
  |g::rest,hi,hn=>
   have IH:∀(c:List Gl×List Bd),c∈qbp s (g::rest) u->∀(S':MS) (r':qao),S'.good->∀e,qac XV 318 [.ptr pre.length 0,.d (qaO .sub c.1),.d (binds .sub c.2)] ((pre++some (mB s S')::r')++e)=some (.d (.tup []),(pre++some (mB s (S'.run (evs s n c.1 c.2)))::r')++e):=fun c hc S' r' hS' e=>by
    rw[qb4,qb4];exact qwg s hs n c.1 c.2 S' pre (r'++e) (qeZ hi c hc).1 (by have:=(qeZ hi c hc).2;omega) hS'
   have IG:∀(c:List Gl×List Bd),c∈qbp s (g::rest) u->∀(S':MS),S'.good->(S'.run (evs s n c.1 c.2)).good:=fun c hc S' hS'=>
    MS.good.run _ hS' fun w hw=>qmg n (qeZ hi c hc).1 hw
   have hgl:=hi.g _ (List.mem_cons_self ..);have hm:=hi.m;rw[qaN]at hm;have hrl:=qiS rest;have hlen:∀(S':MS) (r':qao),(pre++some (mB s S')::r').length=pre.length+r'.length+1:=fun S' r'=>by simp;omega
   rw[qh8,MS.qfi,MS.qgP S hd];obtain⟨mn,f,ps,ts⟩:=g;cases mn with
   |true=>
    have htl:=(hgl.2.2.2.1 rfl).1;have hcn:=hgl.1;simp only at htl hcn;refine qCO s S _ f ps ts rest u pre r hd ho fun r'=> ?_
    have hk:pre.length<(pre++some (mB s S.step)::r').length:=by rw[hlen];omega
    cases ps with
    |nil=>
     refine qCg f ts rest u _ _ _ hk (by simp only[hlen]) (fun c=> ?_) (fun c=> ?_)
     ·have:=IH (rest,u) (by simp[qbp,c]) S.step r' hSg
      simpa[qbp,c]using this
     ·simp[qbp,c,MS.run]
    |cons p ps=>
     have hpl:ps.length<=1000000000:=by
      have e:glW ⟨true,f,p::ps,ts⟩=1+3*(p.inner+1+qcm ps):=by rw[<-qaJ];rfl
      have:=qcN ps;omega
     by_cases c:p.f= -1
     ·cases hb:qbV u p.v with
      |some j=>
       refine qx1 f ts rest u _ _ _ p ps j c hb hsm hk (by simp only[hlen]) (by omega) hpl (by omega) (fun x hx=>by have:=qbi hx;omega) (fun r0 hr0=> ?_) (fun r0 hr0=> ?_)
       ·have:=IH (qa7 f ps r0::rest,u) (by simp[qbp,c,hb,hr0]) S.step r' hSg
        simpa[qbp,c,hb,hr0]using this
       ·simp[qbp,c,hb,hr0,MS.run]
      |none=>
       obtain⟨pf,pv,pk⟩:=p;simp only[T.qaW,T.qdR]at c hb;subst c;have hnx:qbp s (⟨true,f,.node (-1) pv pk::ps,ts⟩::rest) u=(List.range (2^ts.length-1)).map fun m=>(qa7 f ps (qfD ts (m+1) ts.length)::rest,qgT u pv (qdN s f (onB ts (m+1) ts.length))):=by simp[qbp,hb]
       have hmem:∀i,i<2^ts.length-1->(qa7 f ps (qfD ts (i+1) ts.length)::rest,qgT u pv (qdN s f (onB ts (i+1) ts.length)))∈qbp s (⟨true,f,.node (-1) pv pk::ps,ts⟩::rest) u:=fun i hi=>by
        rw[hnx];exact List.mem_map.2 ⟨i,List.mem_range.2 hi,rfl⟩
       rw[hnx,List.flatMap_map];obtain⟨F,hF⟩:∃F:Nat->List (Option (List Bd)),F=fun m=>evs s n (qa7 f ps (qfD ts (m+1) ts.length)::rest) (qgT u pv (qdN s f (onB ts (m+1) ts.length))):=⟨_,rfl⟩
       have hst:∀i,S.step.run ((List.range (i+1)).flatMap F)=(S.step.run ((List.range i).flatMap F)).run (F i):=fun i=>by rw[qcb,MS.qg5]
       have hgd:∀i,i<=2^ts.length-1->(S.step.run ((List.range i).flatMap F)).good:=fun i=>by
        induction i with
        |zero=>intro _;exact hSg
        |succ i ih=>
         intro hle;rw[hst,hF];exact IG _ (hmem i (by omega)) _ (by have:=ih (by omega);rwa[hF]at this)
       have hx:=qx0 s hs f pv pk ps ts rest u pre.length (fun i=>pre++some (mB s (S.step.run ((List.range i).flatMap F)))::r') (fun i=>(S.step.run ((List.range i).flatMap F)).done) (pre.length+r'.length+1)
        (fun i=>hlen _ _) (by omega) (by omega) hpl htl hsm.1 (fun i e=>by simp only[qb4];exact qht s _ pre (r'++e)) (fun i=>(mB s (S.step.run ((List.range i).flatMap F))).tail) (fun i=>by simp only[quq];rfl)
        (fun m=>Nat.le_trans (qg0 (qpP ts m)) (by omega)) hb (fun i h=>by show(S.step.run ((List.range (i+1)).flatMap F)).done=true;rw[hst,MS.qf5 _ h];exact h) (fun i h=>by show pre++some (mB s (S.step.run ((List.range (i+1)).flatMap F)))::r'=pre++some (mB s (S.step.run ((List.range i).flatMap F)))::r';rw[hst,MS.qf5 _ h])
        (fun i h1 _ e=>by
         have:=IH _ (hmem i (by omega)) (S.step.run ((List.range i).flatMap F)) r' (hgd i (by omega)) e;simp only[hst];rw[hF]at this⊢
         exact this)
       rw[hF]at hx;exact hx
     ·have hnx:qbp s (⟨true,f,p::ps,ts⟩::rest) u=(List.range ts.length).map fun i=>(qb1 p (tAt ts i)::qa7 f ps (qbj ts i)::rest,u):=by simp[qbp,c]
      have hmem:∀i,i<ts.length->(qb1 p (tAt ts i)::qa7 f ps (qbj ts i)::rest,u)∈qbp s (⟨true,f,p::ps,ts⟩::rest) u:=fun i hi=>by
       rw[hnx];exact List.mem_map.2 ⟨i,List.mem_range.2 hi,rfl⟩
      rw[hnx,List.flatMap_map];obtain⟨F,hF⟩:∃F:Nat->List (Option (List Bd)),F=fun i=>evs s n (qb1 p (tAt ts i)::qa7 f ps (qbj ts i)::rest) u:=⟨_,rfl⟩
      have hst:∀i,S.step.run ((List.range (i+1)).flatMap F)=(S.step.run ((List.range i).flatMap F)).run (F i):=fun i=>by rw[qcb,MS.qg5]
      have hgd:∀i,i<=ts.length->(S.step.run ((List.range i).flatMap F)).good:=fun i=>by
       induction i with
       |zero=>intro _;exact hSg
       |succ i ih=>
        intro hle;rw[hst,hF];exact IG _ (hmem i (by omega)) _ (by have:=ih (by omega);rwa[hF]at this)
      have hx:=qxZ f p ps ts rest u pre.length (fun i=>pre++some (mB s (S.step.run ((List.range i).flatMap F)))::r') (pre.length+r'.length+1)
       (fun i=>hlen _ _) c (by omega) (by omega) hpl (by omega)
       (fun i h1 e=>by
        have:=IH _ (hmem i h1) (S.step.run ((List.range i).flatMap F)) r' (hgd i (by omega)) e;simp only[hst];rw[hF]at this⊢
        exact this)
      rw[hF]at hx;exact hx
   |false=>
    obtain⟨p,t,hp,ht⟩:=hgl.2.2.2.2 rfl;simp only at hp ht;subst hp ht;have hti:t.inner<=1000:=by have:=hgl.1;simp only[qaJ]at this;omega
    have hpi:p.inner<=1000000:=by
     have e:glW ⟨false,f,[p],[t]⟩=3*p.inner+2:=rfl;omega
    refine qCM s S _ f p t rest u pre r hd ho fun r'=> ?_
    have hk:pre.length<(pre++some (mB s S.step)::r').length:=by rw[hlen];omega
    have hbx:(pre++some (mB s S.step)::r')[pre.length]?=some (some (.d (sg s)::(mB s S.step).tail)):=by rw[quq];rfl
    by_cases c:p.f= -1
    ·cases hb:qbV u p.v with
     |none=>
      refine qB2 s p t rest u _ _ _ hs c hb (hsm.1) hk (by simp only[hlen]) ?_;have:=IH (rest,qgT u p.v t) (by simp[qaZ,c,hb]) S.step r' hSg;simpa[qaZ,c,hb]using this
     |some j=>
      refine qxR p t rest u _ _ _ j c hb hsm (by omega) hk (by simp only[hlen]) (fun h0=> ?_) (fun h0=> ?_)
      ·have h1:=h0
       rw[beq_iff_eq]at h1;have:=IH (rest,u) (by simp[qaZ,c,hb,h1]) S.step r' hSg;simpa[qaZ,c,hb,h1]using this
      ·have h1:=h0
       rw[beq_eq_false_iff_ne]at h1;simp[qaZ,c,hb,h1,MS.run]
    ·by_cases c2:p.f=t.f
     ·cases hbl:qaK s p.f with
      |true=>
       refine qxS s p t rest u _ _ _ (mB s S.step).tail hs c c2 hbl hk (by simp only[hlen]) hbx (by omega) ?_;have:=IH (qa7 p.f p.kids t.kids::rest,u) (by rw[c2]at c hbl;simp[qaZ,c,c2,hbl]) S.step r' hSg;rw[c2]at c hbl this⊢
       simpa[qaZ,c,c2,hbl]using this
      |false=>
       by_cases c3:p.kids.length=t.kids.length
       ·refine qB0 s p t rest u _ _ _ (mB s S.step).tail hs c c2 hbl hk (by simp only[hlen]) hbx c3 (by omega) (by have:=T.qg6 p;omega) ?_
        have:=IH (qbd p.kids t.kids p.kids.length++rest,u) (by rw[c2]at c hbl;simp[qaZ,c,c2,hbl,c3]) S.step r' hSg;have hn0:qbp s (⟨false,f,[p],[t]⟩::rest) u=[(qbd p.kids t.kids p.kids.length++rest,u)]:=by rw[c2]at c hbl;simp[qaZ,c,c2,hbl,c3]
        rw[hn0];simpa using this
       ·have hn0:qbp s (⟨false,f,[p],[t]⟩::rest) u=[]:=by rw[c2]at c hbl;simp[qaZ,c,c2,hbl,c3]
        rw[hn0];exact qB1 s p t rest u _ _ (mB s S.step).tail hs c c2 hbl hk hbx c3
     ·have hn0:qbp s (⟨false,f,[p],[t]⟩::rest) u=[]:=by simp[qaZ,c,c2]
      rw[hn0];exact qxQ p t rest u _ _ c c2 hk
def rB(s:List SymL)(ws:List (List Bd))(fuel:Int):List AV:=[.d (sg s),.d (qbQ ws),.d (.int .i64 fuel)]
def Gl.encR(x:Gl):DV:= .agg [.int .i64 (if x.many then x.f else-1),qaa .sub x.ps,qaa .sub x.ts]
abbrev qaH(l:List Gl):DV:= .sl .sub (l.map Gl.encR)
@[simp] theorem Gl.qLg(x:Gl):x.encR.cells=[.int .i64 (if x.many then x.f else-1),qaa .sub x.ps,qaa .sub x.ts]:=rfl
@[simp] theorem Gl.qKY(x:Gl):(AV.d x.encR).cells=[.d (.int .i64 (if x.many then x.f else-1)),.d (qaa .sub x.ps),.d (qaa .sub x.ts)]:=rfl
@[simp] theorem Gl.qKW(x:Gl):x.encR.isCell=false:=rfl
@[simp] theorem Gl.qPI(x:Gl):x.encR.clr=x.encR:=by simp[Gl.encR]
@[simp] theorem qif:DV.clr∘Gl.encR=Gl.encR:=funext fun w=>by simp
theorem qCw(s:List SymL)(ws:List (List Bd))(fuel:Int)(gl:List Gl)(u:List Bd)(pre r:qao)(h:fuel-1<0\/60<ws.length)(h1: -4611686018427387904<=fuel)(h2:fuel<=20000):
 qac XV 310 [.ptr pre.length 0,.d (qaH gl),.d (binds .sub u)] (pre++some (rB s ws fuel)::r)=some (.d (.tup []),pre++some (rB s ws (fuel-1))::r):=by
 rw[qah XV _ _ _ qhA rfl qdw rfl];have hl:pre.length<pre.length+(r.length+1):=by omega
 have hn2:¬(pre.length+(r.length+1)<=pre.length):=by omega
 have hw:IntKind.i64.wrap (fuel-1)=fuel-1:=wrap_i64 (by omega) (by omega)
 by_cases c:fuel-1<0
 ·simp[qhA,qcH,qcG,qcF,qeY,qff,qeX,qeW,qeV,qeU,qfe,qdj,qdi,qdh,qdI,qdg,qdf,qdH,qde,qdd,qdc,qdb,qdG,qda,qc9,rB,hl,get_at,qaS,splice,hw,c,hn2,qdy]
 ·have c2:(60:Int)<(ws.length:Int):=by omega
  simp[qhA,qcH,qcG,qcF,qeY,qff,qeX,qeW,qeV,qeU,qfe,qdj,qdi,qdh,qdI,qdg,qdf,qdH,qde,qdd,qdc,qdb,qdG,qda,qc9,rB,hl,get_at,qaS,splice,hw,c,c2,hn2,qdy]
theorem qOK(s:List SymL)(ws:List (List Bd))(fuel:Int)(u:List Bd)(pre r:qao)(h:¬fuel-1<0)(hl0:ws.length<=60)(h2:fuel<=20000)(hw:∀w,w∈ws->small w)(hu:small u):
 qac XV 310 [.ptr pre.length 0,.d (qaH []),.d (binds .sub u)] (pre++some (rB s ws fuel)::r)=some (.d (.tup []),pre++some (rB s (if qv8 ws u then ws else ws++[u]) (fuel-1))::r):=by
 rw[qah XV _ _ _ qhA rfl qdw rfl];have hl:pre.length<pre.length+(r.length+1):=by omega
 have hn2:¬(pre.length+(r.length+1)<=pre.length):=by omega
 have hwr:IntKind.i64.wrap (fuel-1)=fuel-1:=wrap_i64 (by omega) (by omega);have hg:¬(60:Int)<(ws.length:Int):=by omega
 have hcon:=qFT ws u (by omega) hw hu;have hcp:=qCk u hu;have hap:=qwH ws U u (by omega);cases hh:qv8 ws u with
 |true=>
  rw[hh]at hcon;simp[qhA,qcH,qcG,qcF,qeY,qff,qeX,qeW,qeV,qeU,qfe,qdj,qdi,qdh,qdI,qdg,qdf,qdH,qde,qdd,qdc,qdb,qdG,qda,qc9,rB,hl,get_at,qaS,splice,hwr,h,hg,hn2,qdy,hcon]
 |false=>
  rw[hh]at hcon;simp[qhA,qcH,qcG,qcF,qeY,qff,qeX,qeW,qeV,qeU,qfe,qdj,qdi,qdh,qdI,qdg,qdf,qdH,qde,qdd,qdc,qdb,qdG,qda,qc9,rB,hl,get_at,qaS,splice,hwr,h,hg,hn2,qdy,hcon,hcp,hap]
theorem qKd(s:List SymL)(ws:List (List Bd))(fuel:Int)(f:Int)(ps ts:List T)(rest:List Gl)(u:List Bd)(pre r:qao)(S':List AV)(h:¬fuel-1<0)(hl0:ws.length<=60)(h2:fuel<=20000)(hf:0<=f)(hrl:rest.length<=1000000000)
 (hrec:∀r',qac XV 311 [.ptr pre.length 0,.d ((Gl.mk true f ps ts).encR),.d (qaH rest),.d (binds .sub u)] (pre++some (rB s ws (fuel-1))::r')=some (.d (.tup []),pre++some S'::r')):
 qac XV 310 [.ptr pre.length 0,.d (qaH (⟨true,f,ps,ts⟩::rest)),.d (binds .sub u)] (pre++some (rB s ws fuel)::r)=some (.d (.tup []),pre++some S'::r):=by
 rw[qah XV _ _ _ qhA rfl qdw rfl];have hl:pre.length<pre.length+(r.length+1):=by omega
 have hl2:pre.length<pre.length+(r.length+1+1):=by omega
 have hn2:¬(pre.length+(r.length+1)<=pre.length):=by omega
 have hn3:¬(pre.length+(r.length+1+1)<=pre.length):=by omega
 have hwr:IntKind.i64.wrap (fuel-1)=fuel-1:=wrap_i64 (by omega) (by omega);have hg:¬(60:Int)<(ws.length:Int):=by omega
 have hz:(0:Int)<=(rest.length:Int):=by omega
 have hz1:¬((rest.length:Int)+1=0):=by omega
 have hz2:(((rest.length:Int)+1)==0)=false:=by simp;omega
 have hr:=hrec (r++[some [.d (.int .i64 f),.d (qaa .sub ps),.d (qaa .sub ts)]]);unfold rB at hr;have hE:(Gl.mk true f ps ts).encR= .agg [.int .i64 f,qaa .sub ps,qaa .sub ts]:=rfl;rw[hE]at hr;have ht:List.take rest.length (rest.map Gl.encR)=rest.map Gl.encR:=List.take_of_length_le (by simp);simp[qhA,qcH,qcG,qcF,qeY,qff,qeX,qeW,qeV,qeU,qfe,qdj,qdi,qdh,qdI,qdg,qdf,qdH,qde,qdd,qdc,qdb,qdG,qda,qc9,rB,hl,hl2,get_at,qaS,splice,hwr,h,hg,hn2,hn3,qdy,qdU,hz,hz1,hz2,hf,cut,ht,hr]
end Go.Proofs.YtbcbkiaineacpaaGreat.VS

/- Contracts of the program's functions on the evaluator without names, and plain lemmas: part 5. -/
import Derived.Test.YtpcoohnjllclnaaGreatXP4
set_option linter.unusedSimpArgs false
set_option linter.unusedVariables false
namespace Go.Proofs.YtpcoohnjllclnaaGreat.VS
theorem RR(n m k:Nat)(rows acc:List ax)(t:rows.length<=1000)(q:acc.length<=1000000)(g:∀i,i<rows.length->(aP rows i).length<=1000):
 bq XV (XV.lin 220) 0 [0,1,5,6,7,8] xp ⟨[(0,aa n),(1,aa m),(5,.d (aH U acc)),(6,aa k),(7,.d (aH .sub rows)),(8,aa 0)],[]⟩=
  some (.exit 2,⟨[(0,aa n),(1,aa m),(5,.d (aH U (acc++rows.map fun r=>(k:Int)::r))),(6,aa k),(7,.d (aH .sub rows)),(8,aa rows.length),(28,au false)],[]⟩):=by
 have h:=ey (X:=XV) (T:=XV.lin 220) (L:=0) (live:=[0,1,5,6,7,8]) (b:=xp) (n:=rows.length) (γ:=Unit) (st:=fun(A:List ax) i=>⟨[(0,aa n),(1,aa m),(5,.d (aH U A)),(6,aa k),(7,.d (aH .sub rows)),(8,aa i)],[]⟩) (step:=tM k rows)
  (F:=fun A=>(.exit 2,⟨[(0,aa n),(1,aa m),(5,.d (aH U A)),(6,aa k),(7,.d (aH .sub rows)),(8,aa rows.length),(28,au false)],[]⟩)) (R:=fun _=>(.ret,⟨[],[]⟩))
  (fun A i=>A.length<=1000000+i)
  (fun A _=>⟨by simp,by simp[xp]⟩)
  (fun A i hi j=>by
   have o:=aV (n:=i) (by omega);have l:=LB k (aP rows i) .sub (by have:=g i hi;omega);have p:bU 1 24 (aH U A) (.sl U [.sl U (.int .i64 (k:Int)::(aP rows i).map (.int .i64))])=some (aH U (A++[(k:Int)::aP rows i])):=by have:=ul A U U U ((k:Int)::aP rows i) (by omega);rw[show aH U (A++[(k:Int)::aP rows i])= .sl U (A.map (ints U)++[ints U ((k:Int)::aP rows i)])by simp[aH]];exact this
   refine⟨⟨_,by simp[xp,hi,o,cut,cQ hi,l,p];rfl,by simp[aA,aB]⟩,fun a' h=>by simp[tM]at h;subst h;simp;omega⟩)
  rows.length acc 0 ⟨[(0,aa n),(1,aa m),(5,.d (aH U acc)),(6,aa k),(7,.d (aH .sub rows)),(8,aa 0)],[]⟩ (by omega) (by omega) (by simp[aA,aB])
 have e:=H4 k rows rows.length acc (bI _);rw[mO]at e;rw[e]at h;simpa using h
theorem HM(n m i:Nat)(hi:i<(ways n m).length):(aP (ways n m) i).length=n:=by rw[<-cQ hi];exact m9 n m _ (gB hi)
theorem Ew:∀(n m:Nat),n<=5->m<=4->aj XV 224 [aa n,aa m] []=some (.d (aH U (ways n m)),[])
 |0,m,_,_=>by rw[aK 224 tO rfl];simp[tO,ways]
 |n+1,m,M,D=>by
  rw[aK 224 tO rfl];have h:=ey (X:=XV) (T:=XV.lin 224) (L:=0) (live:=[0,1,5,6]) (b:=AW) (n:=m+1) (γ:=Unit) (st:=fun(A:List ax) k=>⟨[(0,aa (n+1:Nat)),(1,aa m),(5,.d (aH U A)),(6,aa k)],[]⟩) (step:=uf n m)
   (F:=fun A=>(.exit 0,⟨[(0,aa (n+1:Nat)),(1,aa m),(5,.d (aH U A)),(6,aa (m+1:Nat)),(16,au false)],[]⟩)) (R:=fun _=>(.ret,⟨[],[]⟩))
   (fun A k=>A=em n m k)
   (fun A _=>⟨by simp,by
    have:¬((m:Int)+1<=m):=by omega
    simp[AW,this]⟩)
   (fun A k K e=>by
    subst e;have t:=aV (n:=k) (by omega);have j:(k:Int)<=m:=by omega
    have o:IntKind.i64.wrap ((m:Int)-k)=((m-k:Nat):Int):=by rw[wrap_i64 (by omega) (by omega)];omega
    have p:IntKind.i64.wrap (n:Int)=n:=wrap_i64 (by omega) (by omega);have C:=Ew n (m-k) (by omega) (by omega);have I:=J4 n m k (by omega) D (by omega);have J:=kL n (m-k) (by omega) (by omega);have g:=qE5 (n+1) m k (ways n (m-k)) (em n m k) (by omega) (by omega) (fun i hi=>by rw[HM n _ i hi];omega);simp only[JS]at g
    push_cast at g
    refine⟨⟨_,by simp[AW,t,o,p,j,C,g];rfl,by simp[aA,aB]⟩,fun a' h=>by simp[uf]at h;subst h;rw[CK]⟩)
   (m+1) (em n m 0) 0 ⟨[(0,aa (n+1:Nat)),(1,aa m),(5,.d (aH U (em n m 0))),(6,aa 0)],[]⟩ (by omega) rfl (by simp[aA,aB])
  have z:=E0 n m (m+1) 0;rw[z]at h;simp only[JS]at h;have H:(((n:Int)+1)==0)=false:=by simp;omega
  have q:em n m 0=[]:=rfl;rw[q]at h;have l:aH U ([]:List ax)=DV.sl U []:=rfl;rw[l]at h;simp at h;simp[tO,H];rw[h];simp[ways,em]
theorem Ez:∀(n m:Nat),n<=5->m<=4->aj XV 220 [aa n,aa m] []=some (.d (aH U (ways n m)),[])
 |0,m,_,_=>by rw[aK 220 ua rfl];simp[ua,ways]
 |n+1,m,M,D=>by
  rw[aK 220 ua rfl];have h:=ey (X:=XV) (T:=XV.lin 220) (L:=0) (live:=[0,1,5,6]) (b:=Ai) (n:=m+1) (γ:=Unit) (st:=fun(A:List ax) k=>⟨[(0,aa (n+1:Nat)),(1,aa m),(5,.d (aH U A)),(6,aa k)],[]⟩) (step:=uf n m)
   (F:=fun A=>(.exit 0,⟨[(0,aa (n+1:Nat)),(1,aa m),(5,.d (aH U A)),(6,aa (m+1:Nat)),(16,au false)],[]⟩)) (R:=fun _=>(.ret,⟨[],[]⟩))
   (fun A k=>A=em n m k)
   (fun A _=>⟨by simp,by
    have:¬((m:Int)+1<=m):=by omega
    simp[Ai,this]⟩)
   (fun A k K e=>by
    subst e;have t:=aV (n:=k) (by omega);have j:(k:Int)<=m:=by omega
    have o:IntKind.i64.wrap ((m:Int)-k)=((m-k:Nat):Int):=by rw[wrap_i64 (by omega) (by omega)];omega
    have p:IntKind.i64.wrap (n:Int)=n:=wrap_i64 (by omega) (by omega);have C:=Ez n (m-k) (by omega) (by omega);have I:=J4 n m k (by omega) D (by omega);have J:=kL n (m-k) (by omega) (by omega);have g:=RR (n+1) m k (ways n (m-k)) (em n m k) (by omega) (by omega) (fun i hi=>by rw[HM n _ i hi];omega);simp only[LR]at g
    push_cast at g
    refine⟨⟨_,by simp[Ai,t,o,p,j,C,g];rfl,by simp[aA,aB]⟩,fun a' h=>by simp[uf]at h;subst h;rw[CK]⟩)
   (m+1) (em n m 0) 0 ⟨[(0,aa (n+1:Nat)),(1,aa m),(5,.d (aH U (em n m 0))),(6,aa 0)],[]⟩ (by omega) rfl (by simp[aA,aB])
  have z:=E0 n m (m+1) 0;rw[z]at h;simp only[LR]at h;have H:(((n:Int)+1)==0)=false:=by simp;omega
  have q:em n m 0=[]:=rfl;rw[q]at h;have l:aH U ([]:List ax)=DV.sl U []:=rfl;rw[l]at h;simp at h;simp[ua,H];rw[h];simp[ways,em]
def p0(x y:ax)(b:Bool)(i:Nat):Bool⊕Unit:=if aE y i<aE x i then .inr ()else .inl (b||decide (aE x i<aE y i))
def py(x y:ax):Bool:=match runN (p0 x y) x.length false 0 with| .inl b=>b| .inr _=>false
theorem qt8(x y:ax)(hx:x.length<=1099511627776)(o:x.length=y.length):aj XV 51 [.d (is x),.d (is y)] []=some (au (py x y),[]):=by
 rw[aK 51 v51 rfl];have h:=bG (X:=XV) (T:=XV.lin 51) (L:=0) (live:=[0,1,5,13,14]) (b:=uX) (n:=x.length) (γ:=Unit) (st:=fun(b:Bool) i=>⟨[(0,.d (is x)),(1,.d (is y)),(5,au b),(13,aa x.length),(14,aa i)],[]⟩) (step:=p0 x y)
  (F:=fun b=>(.exit 0,⟨[(0,.d (is x)),(1,.d (is y)),(5,au b),(13,aa x.length),(14,aa x.length),(15,au false)],[]⟩)) (R:=fun _=>(.ret,⟨[(4,au false)],[]⟩))
  (fun _=>⟨by simp,by simp[uX]⟩)
  (fun b i hi=>by
   have l:=aV (n:=i) (by omega);have e:i<y.length:=by omega
   unfold p0
   by_cases g:aE y i<aE x i
   ·simp only[g,if_true]
    exact⟨by simp,by simp[uX,FA,hi,e,cut,bR hi,bR e,g]⟩
   ·simp only[g,if_false]
    cases b with
    |true=>exact⟨_,by simp[uX,FA,NZ,hi,e,l,cut,bR hi,bR e,g];rfl,by simp[aA,aB]⟩
    |false=>exact⟨_,by simp[uX,FA,NZ,hi,e,l,cut,bR hi,bR e,g];rfl,by simp[aA,aB]⟩)
  x.length false 0 ⟨[(0,.d (is x)),(1,.d (is y)),(5,au false),(13,aa x.length),(14,aa 0)],[]⟩ (by omega) (by simp[aA,aB])
 simp only[Wz]at h;unfold py;have j:((x.length:Int) !=y.length)=false:=by simp;omega
 simp[v51,j];rw[h];cases runN (p0 x y) x.length false 0<;>simp
theorem qsQ(x y:ax)(hx:x.length<=1099511627776)(o:x.length=y.length):aj XV 50 [.d (is x),.d (is y)] []=some (au (py x y),[]):=by
 rw[aK 50 Ds rfl];have h:=bG (X:=XV) (T:=XV.lin 50) (L:=0) (live:=[0,1,5,6]) (b:=ue) (n:=x.length) (γ:=Unit) (st:=fun(b:Bool) i=>⟨[(0,.d (is x)),(1,.d (is y)),(5,au b),(6,aa i)],[]⟩) (step:=p0 x y)
  (F:=fun b=>(.exit 0,⟨[(0,.d (is x)),(1,.d (is y)),(5,au b),(6,aa x.length),(16,au false)],[]⟩)) (R:=fun _=>(.ret,⟨[(4,au false)],[]⟩))
  (fun _=>⟨by simp,by simp[ue]⟩)
  (fun b i hi=>by
   have l:=aV (n:=i) (by omega);have e:i<y.length:=by omega
   unfold p0
   by_cases g:aE y i<aE x i
   ·simp only[g,if_true]
    exact⟨by simp,by simp[ue,Gb,hi,e,cut,bR hi,bR e,g]⟩
   ·simp only[g,if_false]
    cases b with
    |true=>exact⟨_,by simp[ue,Gb,Kb,hi,e,l,cut,bR hi,bR e,g];rfl,by simp[aA,aB]⟩
    |false=>exact⟨_,by simp[ue,Gb,Kb,hi,e,l,cut,bR hi,bR e,g];rfl,by simp[aA,aB]⟩)
  x.length false 0 ⟨[(0,.d (is x)),(1,.d (is y)),(5,au false),(6,aa 0)],[]⟩ (by omega) (by simp[aA,aB])
 simp only[q2g]at h;unfold py;have j:((x.length:Int)==y.length)=true:=by simp;omega
 simp[Ds];rw[h];cases hq:runN (p0 x y) x.length false 0 with
 |inr u=>simp
 |inl b=>cases b<;>simp[j]
theorem WW(g:Tag)(y z:ax)(hy:y.length<=1099511627776)(e:y.length=z.length):aj XV 226 [.d (is y),.ptr 0 0] [some [.d (.sl g (z.map (.int .i64)))]]=some (au (py y z),[some [.d (.sl g (z.map (.int .i64)))]]):=by rw[aK 226 yE rfl];have h:=qt8 y z hy e;simp[yE,h,aW]
def js(rows:List ax)(z:ax)(i:Nat):Bool:=py (aP rows i) z
def pV(rows:List ax)(z:ax):Bool:=(aR (js rows z) rows.length 0).isNone
theorem U0(g:Tag)(rows:List ax)(z:ax)(o:rows.length<=1099511627776)(p:z.length<=1099511627776)(e:∀i,i<rows.length->(aP rows i).length=z.length):
 aj XV 228 [.d (aH .sub rows),.fn 226 [.ptr 0 0]] [some [.d (.sl g (z.map (.int .i64)))]]=some (aa (bC (aR (js rows z) rows.length 0)),[some [.d (.sl g (z.map (.int .i64)))]]):=by
 rw[aK 228 CC rfl];have h:=bG (X:=XV) (T:=XV.lin 228) (L:=1) (live:=[0,1,7,8]) (b:=xZ) (n:=rows.length) (γ:=Nat) (st:=fun(_:Unit) i=>⟨[(0,.d (aH .sub rows)),(1,.fn 226 [.ptr 0 0]),(7,aa rows.length),(8,aa i)],[some [.d (.sl g (z.map (.int .i64)))]]⟩) (step:=bH (js rows z))
  (F:=fun _=>(.exit 0,⟨[(0,.d (aH .sub rows)),(1,.fn 226 [.ptr 0 0]),(7,aa rows.length),(8,aa rows.length),(9,au false)],[some [.d (.sl g (z.map (.int .i64)))]]⟩)) (R:=fun(j:Nat)=>(.ret,⟨[(4,aa j)],[some [.d (.sl g (z.map (.int .i64)))]]⟩))
  (fun _=>⟨by simp,by simp[xZ]⟩)
  (fun _ i hi=>by
   have l:=aV (n:=i) (by omega);have hc:=WW g (aP rows i) z (by rw[e i hi];omega) (e i hi);unfold bH js;cases hq:py (aP rows i) z with
   |true=>rw[hq]at hc;simp only[if_true];exact⟨by simp,by simp[xZ,hi,cut,cQ hi,hc]⟩
   |false=>rw[hq]at hc;exact⟨_,by simp[xZ,hi,l,cut,cQ hi,hc];rfl,by simp[aA,aB]⟩)
  rows.length () 0 ⟨[(0,.d (aH .sub rows)),(1,.fn 226 [.ptr 0 0]),(7,aa rows.length),(8,aa 0)],[some [.d (.sl g (z.map (.int .i64)))]]⟩ (by omega) (by simp[aA,aB])
 rw[cU]at h;simp only[QH]at h;simp[CC];rw[h];cases hq:aR (js rows z) rows.length 0<;>simp[bC]
theorem Yr(g:Tag)(rows:List ax)(z:ax)(e:rows.length<=1099511627776)(l:z.length<=1099511627776)(o:∀i,i<rows.length->(aP rows i).length=z.length):
 aj XV 227 [.d (aH .sub rows),.fn 226 [.ptr 0 0]] [some [.d (.sl g (z.map (.int .i64)))]]=some (au (!pV rows z),[some [.d (.sl g (z.map (.int .i64)))]]):=by
 rw[aK 227 yz rfl];have h:=U0 g rows z e l o;unfold pV;cases hq:aR (js rows z) rows.length 0 with
 |none=>rw[hq]at h;simp[yz,h,bC]
 |some j=>rw[hq]at h;simp[yz,h,bC]
def iC(rows:List ax)(k:Nat):List ax:=(rows.take k).filter (pV rows)
theorem Xv(rows:List ax)(k:Nat)(d:k<rows.length):iC rows (k+1)=iC rows k++(if pV rows (aP rows k)then [aP rows k]else []):=by
 unfold iC;rw[pW,List.filter_append]
 congr 1
 rw[fp d,cQ d];simp[List.filter];split<;>simp_all
def sI(rows acc:List ax)(k:Nat):List ax⊕Unit:= .inl (acc++(if pV rows (aP rows k)then [aP rows k]else []))
theorem Fo(rows:List ax):∀(j k:Nat),k+j<=rows.length->runN (sI rows) j (iC rows k) k= .inl (iC rows (k+j))
 |0,k,_=>rfl
 |j+1,k,h=>by
  simp only[runN,sI];rw[<-Xv rows k (by omega),Fo rows j (k+1) (by omega)]
  congr 2;omega
def j_(rows:List ax)(i:Nat):aw:=(rows.take i).map (ints .sub)++(rows.drop i).map (ints U)
theorem Zv(rows:List ax)(i:Nat)(hi:i<rows.length):(j_ rows i)[i]?=some (.sl U ((aP rows i).map (.int .i64))):=by
 unfold j_;have h:((rows.take i).map (ints .sub)).length=i:=by simp;omega
 rw[dx (by omega),h,mO,dP,DD,Cx,fp hi,cQ hi];rfl
theorem YL(rows:List ax)(i:Nat)(hi:i<rows.length):(j_ rows i).set i (.sl .sub ((aP rows i).map (.int .i64)))=j_ rows (i+1):=by
 unfold j_;have h:((rows.take i).map (ints .sub)).length=i:=by simp;omega
 rw[ye _ _ (by omega),h,mO,dS hi,cQ hi,bF,wI,pW,fp hi,cQ hi];simp
theorem Tn(rows:List ax):j_ rows 0=rows.map (ints U):=by simp[j_]
theorem qrI(rows:List ax)(n:Nat)(C:rows.length<=1000000)(D:n<=1000)(l:∀i,i<rows.length->(aP rows i).length=n):
 bq XV (XV.lin 207) 0 [6,13,66,67,68] un ⟨[(6,.d (aH .sub rows)),(13,.d (.sl U [])),(66,.d (aH U rows)),(67,aa rows.length),(68,aa 0)],[]⟩=
  some (.exit 4,⟨[(6,.d (aH .sub rows)),(13,.d (.sl U ((iC rows rows.length).map (ints U)))),(66,.d (.sl U (j_ rows rows.length))),(67,aa rows.length),(68,aa rows.length),(69,au false)],[]⟩):=by
 have h:=ey (X:=XV) (T:=XV.lin 207) (L:=0) (live:=[6,13,66,67,68]) (b:=un) (n:=rows.length) (γ:=Unit) (st:=fun(A:List ax) i=>⟨[(6,.d (aH .sub rows)),(13,.d (.sl U (A.map (ints U)))),(66,.d (.sl U (j_ rows i))),(67,aa rows.length),(68,aa i)],[]⟩) (step:=sI rows)
  (F:=fun A=>(.exit 4,⟨[(6,.d (aH .sub rows)),(13,.d (.sl U (A.map (ints U)))),(66,.d (.sl U (j_ rows rows.length))),(67,aa rows.length),(68,aa rows.length),(69,au false)],[]⟩)) (R:=fun _=>(.ret,⟨[],[]⟩))
  (fun A i=>A.length<=i)
  (fun A _=>⟨by simp,by simp[un,oD,pB,oG,oP,pG]⟩)
  (fun A i hi p=>by
   have o:=aV (n:=i) (by omega);have hc:=Yr U rows (aP rows i) (by omega) (by rw[l i hi];omega) (fun j q=>by rw[l j q,l i hi]);have z:bU 1 24 (.sl U (A.map (ints U))) (.sl U [.sl U ((aP rows i).map (.int .i64))])=some (.sl U ((A++[aP rows i]).map (ints U))):=by have:=ul A U U U (aP rows i) (by omega);rw[cL];exact this
   have g:=Zv rows i hi;have ts:=YL rows i hi;unfold sI;generalize j_ rows i=tr at g ts⊢
   cases hq:pV rows (aP rows i)with
   |true=>rw[hq]at hc;refine⟨⟨_,by simp[un,oD,pB,oG,oP,pG,hi,o,cut,g,ts,hc,z,aW,a6,bb,ba,splice];rfl,by simp[aA,aB]⟩,fun a' h=>by simp at h;subst h;simp;omega⟩
   |false=>rw[hq]at hc;refine⟨⟨_,by simp[un,oD,pB,oG,oP,pG,hi,o,cut,g,ts,hc,a6,bb,ba,splice];rfl,by simp[aA,aB]⟩,fun a' h=>by simp at h;subst h;omega⟩)
  rows.length [] 0 ⟨[(6,.d (aH .sub rows)),(13,.d (.sl U [])),(66,.d (aH U rows)),(67,aa rows.length),(68,aa 0)],[]⟩ (by omega) (by simp) (by rw[Tn];simp[aA,aB])
 have e:=Fo rows rows.length 0 (by omega);have t:iC rows 0=[]:=by simp[iC]
 rw[t,dE]at e;rw[e]at h;exact h
theorem Nh(rows:List ax)(D:AV)(l:D.safe 0=true)(z:Nat)(n:Nat)(F:rows.length<=1000000)(J:n<=1000)(g:z<rows.length)(o:∀i,i<rows.length->(aP rows i).length=n):∀(j k:Nat),k+j=rows.length->
 ∃k':Int,bq XV (XV.lin 208) 0 [6,7,8,9,10] mY ⟨[(6,D),(7,.d (aH .sub rows)),(8,aa z),(9,au true),(10,aa k)],[]⟩=
  some (.exit 2,⟨[(6,D),(7,.d (aH .sub rows)),(8,aa z),(9,au ((aR (js rows (aP rows z)) j k).isNone)),(10,aa k'),(36,au false)],[]⟩)
 |0,k,h=>by
  have e:k=rows.length:=by omega
  subst e;refine⟨rows.length,dX (s0:=⟨[(6,D),(7,.d (aH .sub rows)),(8,aa z),(9,au true),(10,aa rows.length)],[]⟩) (by simp[aA,aB,l]) ?_ (by simp)⟩;simp[mY,aR]
 |j+1,k,h=>by
  have e:k<rows.length:=by omega
  have C:=aV (n:=k) (by omega);have hc:=qsQ (aP rows k) (aP rows z) (by rw[o k e];omega) (by rw[o k e,o z g]);have t:aA 0 [6,7,8,9,10] ⟨[(6,D),(7,.d (aH .sub rows)),(8,aa z),(9,au true),(10,aa k)],[]⟩=some ⟨[(6,D),(7,.d (aH .sub rows)),(8,aa z),(9,au true),(10,aa k)],[]⟩:=by simp[aA,aB,l]
  cases hq:py (aP rows k) (aP rows z)with
  |false=>
   rw[hq]at hc;obtain⟨k',H⟩:=Nh rows D l z n F J g o j (k+1) (by omega);refine⟨k',?_⟩;have q:aS XV (XV.lin 208) mY ⟨[(6,D),(7,.d (aH .sub rows)),(8,aa z),(9,au true),(10,aa k)],[]⟩=some (.normal,⟨[(6,D),(7,.d (aH .sub rows)),(8,aa z),(9,au true),(10,aa (k+1:Nat))],[]⟩):=by simp[mY,LW,e,g,C,cut,cQ e,cQ g,hc]
   rw[d_ t q,H];have:aR (js rows (aP rows z)) (j+1) k=aR (js rows (aP rows z)) j (k+1):=by simp[aR,js,hq]
   rw[this]
  |true=>
   rw[hq]at hc;refine⟨(k+1:Nat),?_⟩;have q:aS XV (XV.lin 208) mY ⟨[(6,D),(7,.d (aH .sub rows)),(8,aa z),(9,au true),(10,aa k)],[]⟩=some (.normal,⟨[(6,D),(7,.d (aH .sub rows)),(8,aa z),(9,au false),(10,aa (k+1:Nat))],[]⟩):=by simp[mY,LW,e,g,C,cut,cQ e,cQ g,hc]
   rw[d_ t q];have I:aR (js rows (aP rows z)) (j+1) k=some k:=by simp[aR,js,hq]
   rw[I];refine dX (s0:=⟨[(6,D),(7,.d (aH .sub rows)),(8,aa z),(9,au false),(10,aa (k+1:Nat))],[]⟩) (by simp[aA,aB,l]) ?_ (by simp)
   by_cases K:k+1<rows.length
   ·have p:(k:Int)+1<rows.length:=by omega
    simp[mY,p]
   ·have p:¬(k:Int)+1<rows.length:=by omega
    simp[mY,p]
theorem QC(rows:List ax)(n:Nat)(p:rows.length<=1000000)(t:n<=1000)(C:∀i,i<rows.length->(aP rows i).length=n):
 bq XV (XV.lin 208) 0 [6,7,8] sV ⟨[(6,.d (.sl U [])),(7,.d (aH .sub rows)),(8,aa 0)],[]⟩=
  some (.exit 0,⟨[(6,.d (.sl U ((iC rows rows.length).map (ints .sub)))),(7,.d (aH .sub rows)),(8,aa rows.length),(27,au false)],[]⟩):=by
 have h:=ey (X:=XV) (T:=XV.lin 208) (L:=0) (live:=[6,7,8]) (b:=sV) (n:=rows.length) (γ:=Unit) (st:=fun(A:List ax) i=>⟨[(6,.d (.sl U (A.map (ints .sub)))),(7,.d (aH .sub rows)),(8,aa i)],[]⟩) (step:=sI rows)
  (F:=fun A=>(.exit 0,⟨[(6,.d (.sl U (A.map (ints .sub)))),(7,.d (aH .sub rows)),(8,aa rows.length),(27,au false)],[]⟩)) (R:=fun _=>(.ret,⟨[],[]⟩))
  (fun A i=>A.length<=i)
  (fun A _=>⟨by simp,by simp[sV]⟩)
  (fun A i hi o=>by
   have l:=aV (n:=i) (by omega);obtain⟨k',e⟩:=Nh rows (.d (.sl U (A.map (ints .sub)))) rfl i n p t hi C rows.length 0 (by omega);have z:bU 1 24 (.sl U (A.map (ints .sub))) (.sl U [.sl .sub ((aP rows i).map (.int .i64))])=some (.sl U ((A++[aP rows i]).map (ints .sub))):=by have:=ul A .sub .sub U (aP rows i) (by omega);rw[cL];exact this
   unfold sI;have j:pV rows (aP rows i)=(aR (js rows (aP rows i)) rows.length 0).isNone:=rfl;rw[<-j]at e;simp only[Jb]at e;simp at e;cases hq:pV rows (aP rows i)with
   |true=>rw[hq]at e;refine⟨⟨_,by simp[sV,hi,l,cut,cQ hi,e,z];rfl,by simp[aA,aB]⟩,fun a' h=>by simp at h;subst h;simp;omega⟩
   |false=>rw[hq]at e;refine⟨⟨_,by simp[sV,hi,l,e];rfl,by simp[aA,aB]⟩,fun a' h=>by simp at h;subst h;omega⟩)
  rows.length [] 0 ⟨[(6,.d (.sl U [])),(7,.d (aH .sub rows)),(8,aa 0)],[]⟩ (by omega) (by simp) (by simp[aA,aB])
 have g:=Fo rows rows.length 0 (by omega);have q:iC rows 0=[]:=by simp[iC]
 rw[q,dE]at g;rw[g]at h;exact h
theorem M_(g e j:Tag)(x y:ax)(B:az)(l:x.length+y.length<=1099511627776):
 aj XV 225 [.d (.sl g [.sl e (x.map (.int .i64)),.sl j (y.map (.int .i64))])] B=some (.d (.sl U ((x++y).map (.int .i64))),B):=by
 rw[vk XV 225 _ _ kE rfl];have h:(x.length+y.length)*8<=140737488355328:=by omega
 simp[bd,kE,eb,xw,h];rfl
def iS(a b z:ax):Bool:=decide (0<di z)&&rX a b z
def dN(a b x:ax)(right:List ax)(k:Nat):List ax:=((right.take k).map (x++·)).filter (iS a b)
theorem DK(a b x:ax)(right:List ax)(k:Nat)(d:k<right.length):dN a b x right (k+1)=dN a b x right k++(if iS a b (x++aP right k)then [x++aP right k]else []):=by
 unfold dN;rw[pW,cL,List.filter_append]
 congr 1
 rw[fp d,cQ d];simp[List.filter];split<;>simp_all
theorem Wh(a b x:ax)(right:List ax)(k:Nat):(dN a b x right k).length<=k:=by unfold dN;have:=List.length_filter_le (iS a b) ((right.take k).map (x++·));rw[cT,xd]at this;omega
def C1(a b x:ax)(right acc:List ax)(k:Nat):List ax⊕Unit:= .inl (acc++(if iS a b (x++aP right k)then [x++aP right k]else []))
theorem Ot(a b x:ax)(right acc:List ax):∀(j k:Nat),k+j<=right.length->runN (C1 a b x right) j (acc++dN a b x right k) k= .inl (acc++dN a b x right (k+j))
 |0,k,_=>rfl
 |j+1,k,h=>by
  simp only[runN,C1];rw[bX,<-DK a b x right k (by omega),Ot a b x right acc j (k+1) (by omega)]
  congr 3;omega
theorem V8(a b x:ax)(right acc:List ax)(L:AV)(t:L.safe 0=true)(n i:Int)(ha:a.length<=1000)(hb:b.length<=1000)(hx:x.length=a.length)(p:0<x.length)(hr:right.length<=1000)(O:acc.length<=1000000)
 (J:∀i,i<right.length->(aP right i).length=b.length) (V:0<b.length):
 bq XV (XV.lin 207) 0 [0,1,6,7,9,34,35,36,40,41,42] qL ⟨[(0,.d (is a)),(1,.d (is b)),(6,.d (aH U acc)),(7,.d (aH .sub right)),(9,.d (is x)),(34,L),(35,aa n),(36,aa i),(40,.d (aH .sub right)),(41,aa right.length),(42,aa 0)],[]⟩=
  some (.exit 2,⟨[(0,.d (is a)),(1,.d (is b)),(6,.d (aH U (acc++dN a b x right right.length))),(7,.d (aH .sub right)),(9,.d (is x)),(34,L),(35,aa n),(36,aa i),(40,.d (aH .sub right)),(41,aa right.length),(42,aa right.length),(43,au false)],[]⟩):=by
 have h:=ey (X:=XV) (T:=XV.lin 207) (L:=0) (live:=[0,1,6,7,9,34,35,36,40,41,42]) (b:=qL) (n:=right.length) (γ:=Unit) (st:=fun(A:List ax) j=>⟨[(0,.d (is a)),(1,.d (is b)),(6,.d (aH U A)),(7,.d (aH .sub right)),(9,.d (is x)),(34,L),(35,aa n),(36,aa i),(40,.d (aH .sub right)),(41,aa right.length),(42,aa j)],[]⟩) (step:=C1 a b x right)
  (F:=fun A=>(.exit 2,⟨[(0,.d (is a)),(1,.d (is b)),(6,.d (aH U A)),(7,.d (aH .sub right)),(9,.d (is x)),(34,L),(35,aa n),(36,aa i),(40,.d (aH .sub right)),(41,aa right.length),(42,aa right.length),(43,au false)],[]⟩)) (R:=fun _=>(.ret,⟨[],[]⟩))
  (fun A j=>A.length<=1000000+j)
  (fun A _=>⟨by simp,by simp[qL,mF,nd,mw,oa,nE,mS,qX,qO,p7,qR,ns,m_,oD,pB,oG,oP,pG,mu,nu,nj]⟩)
  (fun A j q P=>by
   have M:=aV (n:=j) (by omega);have g:=J j q;generalize hy:aP right j=y at*
   have D:right[j]=y:=by rw[cQ q,hy]
   have x1:x≠[]:=fun h=>by rw[h]at p;simp at p
   have Y:y≠[]:=fun h=>by rw[h]at g;simp at g;omega
   have K:=M_ .sub .sub .sub x y [] (by omega);have h5:(x++y).length=a.length+b.length:=by rw[cG];omega
   have H:=GQ (x++y) (by omega) (by omega);have C:=QM a b (x++y) (by omega) (by omega) (by omega);have I:bU 1 24 (aH U A) (.sl U [.sl U ((x++y).map (.int .i64))])=some (aH U (A++[x++y])):=by have:=ul A U U U (x++y) (by omega);rw[show aH U (A++[x++y])= .sl U (A.map (ints U)++[ints U (x++y)])by simp[aH]];exact this
   unfold C1;rw[hy];generalize hz:x++y=z at*
   by_cases e:0<di z
   ·cases hq:rX a b z with
    |true=>
     rw[hq]at C;have o:iS a b z=true:=by simp[iS,e,hq]
     simp only[o,if_true];refine⟨⟨_,by simp[qL,mF,nd,mw,oa,nE,mS,qX,qO,p7,qR,ns,m_,oD,pB,oG,oP,pG,mu,nu,nj,q,M,cut,D,K,H,C,I,e];rfl,by simp[aA,aB,t]⟩,fun a' h=>by simp at h;subst h;simp;omega⟩
    |false=>
     rw[hq]at C;have o:iS a b z=false:=by simp[iS,e,hq]
     simp only[o];refine⟨⟨_,by simp[qL,mF,nd,mw,oa,nE,mS,qX,qO,p7,qR,ns,m_,oD,pB,oG,oP,pG,mu,nu,nj,q,M,cut,D,K,H,C,I,e];rfl,by simp[aA,aB,t]⟩,fun a' h=>by simp at h;subst h;omega⟩
   ·have o:iS a b z=false:=by simp[iS,e]
    simp only[o];refine⟨⟨_,by simp[qL,mF,nd,mw,oa,nE,mS,qX,qO,p7,qR,ns,m_,oD,pB,oG,oP,pG,mu,nu,nj,q,M,cut,D,K,H,I,e];rfl,by simp[aA,aB,t]⟩,fun a' h=>by simp at h;subst h;omega⟩)
  right.length acc 0 ⟨[(0,.d (is a)),(1,.d (is b)),(6,.d (aH U acc)),(7,.d (aH .sub right)),(9,.d (is x)),(34,L),(35,aa n),(36,aa i),(40,.d (aH .sub right)),(41,aa right.length),(42,aa 0)],[]⟩ (by omega) (by omega) (by simp[aA,aB,t])
 have l:=Ot a b x right acc right.length 0 (by omega);have Z:dN a b x right 0=[]:=by simp[dN]
 rw[Z,dE,cS]at l;rw[l]at h;exact h
theorem dA{l:ax}(h:b_ l=true):1<=l.length/\l.length<=5:=by unfold b_ b4 at h;simp at h;omega
theorem mG{l:ax}(h:b_ l=true)(i:Nat)(hi:i<l.length):1<=aE l i/\aE l i<=4:=by unfold b_ at h;simp only[cd,OF]at h;have:=Aa _ _ _ i h.1 (c8 _) (by omega);unfold lj b4 at this;simp at this;omega
theorem Hd(l:ax)(lo hi:Int):∀(k i:Nat) (m:Int),i+k<=l.length->(∀j,j<l.length->lo<=aE l j/\aE l j<=hi)->lo<=m->m<=hi->lo<=jf l i k m/\jf l i k m<=hi
 |0,i,m,_,_,d,e=>⟨d,e⟩
 |k+1,i,m,g,h,d,e=>by
  simp only[jf];have:=h i (by omega);split
  ·exact Hd l lo hi k (i+1) _ (by omega) h this.1 this.2
  ·exact Hd l lo hi k (i+1) _ (by omega) h d e
theorem jO{l:ax}(h:b_ l=true):1<=di l/\di l<=4:=by have g:=dA h;have d:=mG h 0 (by omega);exact Hd l 1 4 _ _ _ (by omega) (fun j e=>mG h j e) d.1 d.2
theorem Mc{l:ax}(h:b_ l=true):Bp l=di l:=by have g:=dA h;have e:=mG h 0 (by omega);unfold Bp di;obtain⟨k,d⟩:∃k,l.length=k+1:=⟨l.length-1,by omega⟩;rw[d];simp only[jf,dE,Nat.add_sub_cancel];rw[ay (by omega)]
def a_(a b:ax):List ax:=ways a.length (di b).toNat
def bA(a b:ax):List ax:=ways b.length (di a).toNat
def d6(a b:ax)(k:Nat):List ax:=((a_ a b).take k).flatMap fun x=>dN a b x (bA a b) (bA a b).length
def fL(a b:ax):List ax:=d6 a b (a_ a b).length
theorem yh(a b:ax)(k:Nat)(d:k<(a_ a b).length):d6 a b (k+1)=d6 a b k++dN a b (aP (a_ a b) k) (bA a b) (bA a b).length:=by unfold d6;rw[pW,FU,fp d,cQ d];simp
theorem Ej(a b:ax)(d:(bA a b).length<=126):∀k,k<=(a_ a b).length->(d6 a b k).length<=126*k
 |0,_=>by simp[d6]
 |k+1,h=>by rw[yh a b k (by omega),cG];have:=Ej a b d k (by omega);have:=Wh a b (aP (a_ a b) k) (bA a b) (bA a b).length;omega
variable{m:Nat}
theorem qMU(a b x:ax)(right:List ax)(k:Nat)(n:Nat)(hx:x.length+n=m)(h:∀r,r∈right->r.length=n):∀z,z∈dN a b x right k->z.length=m:=by intro z d;unfold dN at d;obtain⟨y,hy,rfl⟩:=cC.1 (GL.1 d).1;rw[cG,h y (pT hy)];exact hx
theorem Gx(a b:ax)(k:Nat):∀z,z∈d6 a b k->z.length=a.length+b.length:=by intro z d;unfold d6 at d;obtain⟨x,hx,d⟩:=tX.1 d;have:=m9 _ _ x (pT hx);exact qMU a b x _ _ b.length (by omega) (fun r e=>m9 _ _ r e) z d
variable{i:Nat}
theorem jR{l:List ax}(h:i<l.length):aP l i∈l:=by rw[<-cQ h];exact gB h
def Cm(a b:ax)(acc:List ax)(k:Nat):List ax⊕Unit:= .inl (acc++dN a b (aP (a_ a b) k) (bA a b) (bA a b).length)
theorem Mh(a b:ax):∀(j k:Nat),k+j<=(a_ a b).length->runN (Cm a b) j (d6 a b k) k= .inl (d6 a b (k+j))
 |0,k,_=>rfl
 |j+1,k,h=>by
  simp only[runN,Cm];rw[<-yh a b k (by omega),Mh a b j (k+1) (by omega)]
  congr 2;omega
theorem X_(a b:ax)(H:b_ a=true)(D:b_ b=true):
 bq XV (XV.lin 207) 0 [0,1,6,7,34,35,36] vo ⟨[(0,.d (is a)),(1,.d (is b)),(6,.d (aH U [])),(7,.d (aH .sub (bA a b))),(34,.d (aH .sub (a_ a b))),(35,aa (a_ a b).length),(36,aa 0)],[]⟩=
  some (.exit 0,⟨[(0,.d (is a)),(1,.d (is b)),(6,.d (aH U (fL a b))),(7,.d (aH .sub (bA a b))),(34,.d (aH .sub (a_ a b))),(35,aa (a_ a b).length),(36,aa (a_ a b).length),(37,au false)],[]⟩):=by
 have la:=dA H;have V:=dA D;have Y:=jO H;have M:=jO D;have K:(bA a b).length<=126:=kL _ _ (by omega) (by omega);have P:(a_ a b).length<=126:=kL _ _ (by omega) (by omega);have o:∀i,i<(bA a b).length->(aP (bA a b) i).length=b.length:=fun i hi=>m9 _ _ _ (jR hi)
 have e:∀i,i<(a_ a b).length->(aP (a_ a b) i).length=a.length:=fun i hi=>m9 _ _ _ (jR hi)
 have h:=ey (X:=XV) (T:=XV.lin 207) (L:=0) (live:=[0,1,6,7,34,35,36]) (b:=vo) (n:=(a_ a b).length) (γ:=Unit) (st:=fun(A:List ax) j=>⟨[(0,.d (is a)),(1,.d (is b)),(6,.d (aH U A)),(7,.d (aH .sub (bA a b))),(34,.d (aH .sub (a_ a b))),(35,aa (a_ a b).length),(36,aa j)],[]⟩) (step:=Cm a b)
  (F:=fun A=>(.exit 0,⟨[(0,.d (is a)),(1,.d (is b)),(6,.d (aH U A)),(7,.d (aH .sub (bA a b))),(34,.d (aH .sub (a_ a b))),(35,aa (a_ a b).length),(36,aa (a_ a b).length),(37,au false)],[]⟩)) (R:=fun _=>(.ret,⟨[],[]⟩))
  (fun A j=>A=d6 a b j)
  (fun A _=>⟨by simp,by simp[vo,qX,qO,p7,qR]⟩)
  (fun A j g l=>by
   subst l;have I:=aV (n:=j) (by omega);have O:=Ej a b K j (by omega);have p:=V8 a b (aP (a_ a b) j) (bA a b) (d6 a b j) (.d (aH .sub (a_ a b))) rfl (a_ a b).length j (by omega) (by omega) (e j g) (by rw[e j g];omega) (by omega) (by omega) o (by omega);simp only[N6]at p;generalize C:d6 a b j++dN a b (aP (a_ a b) j) (bA a b) (bA a b).length=q at p;generalize t:aP (a_ a b) j=x at*
   have z:(a_ a b)[j]=x:=by rw[cQ g,t]
   unfold Cm;rw[t,C];refine⟨⟨_,by simp[vo,qX,qO,p7,qR,g,I,cut,z,p];rfl,by simp[aA,aB]⟩,fun a' h=>by simp at h;subst h;rw[yh a b j g,t,C]⟩)
  (a_ a b).length (d6 a b 0) 0 ⟨[(0,.d (is a)),(1,.d (is b)),(6,.d (aH U (d6 a b 0))),(7,.d (aH .sub (bA a b))),(34,.d (aH .sub (a_ a b))),(35,aa (a_ a b).length),(36,aa 0)],[]⟩ (by omega) rfl (by simp[aA,aB])
 rw[Mh a b _ 0 (by omega),dE]at h;have J:d6 a b 0=[]:=by simp[d6]
 rw[J]at h;exact h
def bL(a b:ax):List ax:=iC (fL a b) (fL a b).length
theorem TF(a b:ax)(la:a.length<=1099511627776)(q:b.length<=1099511627776):
 aj XV 207 [.d (is a),.d (is b)] []=some (.d (.tup (if b_ a=true/\b_ b=true/\(bL a b).length<=60 then [.sl U ((bL a b).map (ints U)),.bool true]else [.sl U [],.bool false])),[]):=by
 rw[aK 207 ra rfl];have f1:=Kk a la;have f2:=Kk b q;cases ha:b_ a with
 |false=>rw[ha]at f1;simp[ra,mF,nd,mw,oa,nE,mS,ns,m_,mu,nu,nj,f1]
 |true=>
  rw[ha]at f1;cases hb:b_ b with
  |false=>rw[hb]at f2;simp[ra,mF,nd,mw,oa,nE,mS,ns,m_,mu,nu,nj,f1,f2]
  |true=>
   rw[hb]at f2;have la:=dA ha;have q:=dA hb;have K:=jO ha;have H:=jO hb;have D:(bA a b).length<=126:=kL _ _ (by omega) (by omega);have J:(a_ a b).length<=126:=kL _ _ (by omega) (by omega);have I:=Ej a b D (a_ a b).length (bI _);have t:=GQ a (by omega) (by omega);have p:=GQ b (by omega) (by omega);have s1:=Ew b.length (di a).toNat (by omega) (by omega);have j:=Ew a.length (di b).toNat (by omega) (by omega);rw[Int.toNat_of_nonneg (by omega)]at s1 j;have h:=X_ a b ha hb;have l:=qrI (fL a b) (a.length+b.length) (by unfold fL;omega) (by omega) (fun i hi=>Gx a b _ _ (jR hi));simp only[N6]at h l;have C:ways b.length (di a).toNat=bA a b:=rfl;have F:ways a.length (di b).toNat=a_ a b:=rfl;rw[C]at s1;rw[F]at j;have z:iC (fL a b) (fL a b).length=bL a b:=rfl;rw[z]at l;have o:aH U ([]:List ax)=DV.sl U []:=rfl;rw[o]at h;generalize fL a b=al at*
   generalize a_ a b=lf at*
   generalize bA a b=rt at*
   by_cases g:(bL a b).length<=60
   ·have e:¬(60:Int)<(bL a b).length:=by omega
    generalize bL a b=bl at*
    simp[ra,mF,nd,mw,oa,nE,mS,ns,m_,mu,nu,nj,f1,f2,t,p,s1,j];rw[h];simp;rw[l];simp[g,e]
   ·have e:(60:Int)<(bL a b).length:=by omega
    generalize bL a b=bl at*
    simp[ra,mF,nd,mw,oa,nE,mS,ns,m_,mu,nu,nj,f1,f2,t,p,s1,j];rw[h];simp;rw[l];simp[g,e]
def qc(a b x y:ax):Bool:=W (bS b y 0 0 b.length)==W (bS a x 0 0 a.length)
def gF(a b x:ax)(right:List ax):Nat->List ax
 |0=>[]
 |k+1=>gF a b x right k++(if qc a b x (aP right (k+1))then [x++aP right (k+1)]else [])
theorem ME(a b x:ax)(right:List ax)(k:Nat):gF a b x right (k+1)=gF a b x right k++(if qc a b x (aP right (k+1))then [x++aP right (k+1)]else []):=rfl
theorem Jo(a b x:ax)(right:List ax):∀k,(gF a b x right k).length<=k
 |0=>bI _
 |k+1=>by have:=Jo a b x right k;simp only[gF,cG];split<;>simp<;>omega
def Bg(a b x:ax)(right acc:List ax)(k:Nat):List ax⊕Unit:= .inl (acc++(if qc a b x (aP right k)then [x++aP right k]else []))
theorem Oc(a b x:ax)(right acc:List ax):∀(j k:Nat),runN (Bg a b x right) j (acc++gF a b x right k) (k+1)= .inl (acc++gF a b x right (k+j))
 |0,k=>rfl
 |j+1,k=>by
  simp only[runN,Bg];rw[bX,<-ME,Oc a b x right acc j (k+1)]
  congr 3;omega
theorem qvT(a b x:ax)(left right acc:List ax)(i:Nat)(hi:i<left.length)(l:aP left i=x)(ha:a.length<=1000)(Z:b.length<=1000)(hx:x.length=a.length)(hr:right.length<=1000)(P:0<right.length)(Y:left.length<=1000)(I:acc.length<=1000000)
 (p:∀i,i<right.length->(aP right i).length=b.length):
 bq XV (XV.lin 218) 0 [0,1,5,6,7,8,9,10] rV ⟨[(0,.d (is a)),(1,.d (is b)),(5,.d (aH U acc)),(6,.d (aH .sub left)),(7,.d (aH .sub right)),(8,aa i),(9,aa (W (bS a x 0 0 a.length))),(10,aa 1)],[]⟩=
  some (.exit 2,⟨[(0,.d (is a)),(1,.d (is b)),(5,.d (aH U (acc++gF a b x right (right.length-1)))),(6,.d (aH .sub left)),(7,.d (aH .sub right)),(8,aa i),(9,aa (W (bS a x 0 0 a.length))),(10,aa right.length),(38,au false)],[]⟩):=by
 have h:=ey (X:=XV) (T:=XV.lin 218) (L:=0) (live:=[0,1,5,6,7,8,9,10]) (b:=rV) (n:=right.length) (γ:=Unit) (st:=fun(A:List ax) j=>⟨[(0,.d (is a)),(1,.d (is b)),(5,.d (aH U A)),(6,.d (aH .sub left)),(7,.d (aH .sub right)),(8,aa i),(9,aa (W (bS a x 0 0 a.length))),(10,aa j)],[]⟩) (step:=Bg a b x right)
  (F:=fun A=>(.exit 2,⟨[(0,.d (is a)),(1,.d (is b)),(5,.d (aH U A)),(6,.d (aH .sub left)),(7,.d (aH .sub right)),(8,aa i),(9,aa (W (bS a x 0 0 a.length))),(10,aa right.length),(38,au false)],[]⟩)) (R:=fun _=>(.ret,⟨[],[]⟩))
  (fun A j=>A.length<=1000000+j)
  (fun A _=>⟨by simp,by simp[rV]⟩)
  (fun A j g J=>by
   have H:=aV (n:=j) (by omega);have K:=p j g;generalize hy:aP right j=y at*
   have C:right[j]=y:=by rw[cQ g,hy]
   have t:left[i]=x:=by rw[cQ hi,l]
   have q:=KF b y 0 (by omega) (by omega) (by omega);have D:=qI [] x .sub (by simp;omega);have O:=qI x y .sub (by omega);have M:bU 1 24 (aH U A) (.sl U [.sl U ((x++y).map (.int .i64))])=some (aH U (A++[x++y])):=by have:=ul A U U U (x++y) (by omega);rw[show aH U (A++[x++y])= .sl U (A.map (ints U)++[ints U (x++y)])by simp[aH]];exact this
   simp only[bT,co]at D;unfold Bg;rw[hy];generalize V:x++y=z at*
   simp only[nv]at q;cases hq:qc a b x y with
   |true=>
    have o:(W (bS b y 0 0 b.length)==W (bS a x 0 0 a.length))=true:=hq;generalize W (bS b y 0 0 b.length)=d1 at*
    generalize W (bS a x 0 0 a.length)=d2 at*
    refine⟨⟨_,by simp[rV,g,hi,H,cut,C,t,q,D,O,M,o];rfl,by simp[aA,aB]⟩,fun a' h=>by simp at h;subst h;simp;omega⟩
   |false=>
    have o:(W (bS b y 0 0 b.length)==W (bS a x 0 0 a.length))=false:=hq;generalize W (bS b y 0 0 b.length)=d1 at*
    generalize W (bS a x 0 0 a.length)=d2 at*
    refine⟨⟨_,by simp[rV,g,H,cut,C,q,o];rfl,by simp[aA,aB]⟩,fun a' h=>by simp at h;subst h;omega⟩)
  (right.length-1) acc 1 ⟨[(0,.d (is a)),(1,.d (is b)),(5,.d (aH U acc)),(6,.d (aH .sub left)),(7,.d (aH .sub right)),(8,aa i),(9,aa (W (bS a x 0 0 a.length))),(10,aa 1)],[]⟩ (by omega) (by omega) (by simp[aA,aB])
 have e:=Oc a b x right acc (right.length-1) 0;simp only[gF,cS,dE]at e;rw[e]at h;exact h
def ek(a b:ax):Nat->List ax
 |0=>[]
 |k+1=>ek a b k++gF a b (aP (a_ a b) (k+1)) (bA a b) ((bA a b).length-1)
theorem Nm(a b:ax)(k:Nat):ek a b (k+1)=ek a b k++gF a b (aP (a_ a b) (k+1)) (bA a b) ((bA a b).length-1):=rfl
theorem Px(a b:ax)(d:(bA a b).length<=126):∀k,(ek a b k).length<=126*k
 |0=>by simp[ek]
 |k+1=>by have:=Px a b d k;have:=Jo a b (aP (a_ a b) (k+1)) (bA a b) ((bA a b).length-1);simp only[ek,cG];omega
def AX(a b:ax)(acc:List ax)(k:Nat):List ax⊕Unit:= .inl (acc++gF a b (aP (a_ a b) k) (bA a b) ((bA a b).length-1))
theorem Jz(a b:ax):∀(j k:Nat),runN (AX a b) j (ek a b k) (k+1)= .inl (ek a b (k+j))
 |0,k=>rfl
 |j+1,k=>by
  simp only[runN,AX];rw[<-Nm,Jz a b j (k+1)]
  congr 2;omega
theorem xa:∀(n m:Nat),0<(ways n m).length
 |0,m=>by simp[ways]
 |n+1,m=>by have:=xa n (m-0);simp only[ways,List.range_succ_eq_map,mC,cG,cT];omega
theorem QU(a b:ax)(H:b_ a=true)(D:b_ b=true):aj XV 218 [.d (is a),.d (is b)] []=some (.d (aH U (ek a b ((a_ a b).length-1))),[]):=by
 rw[aK 218 Ee rfl];have la:=dA H;have lb:=dA D;have ma:=jO H;have mb:=jO D;have hR:(bA a b).length<=126:=kL _ _ (by omega) (by omega);have hL:(a_ a b).length<=126:=kL _ _ (by omega) (by omega);have C:0<(bA a b).length:=xa _ _;have h1:0<(a_ a b).length:=xa _ _;have p:∀i,i<(bA a b).length->(aP (bA a b) i).length=b.length:=fun i hi=>m9 _ _ _ (jR hi)
 have e:∀i,i<(a_ a b).length->(aP (a_ a b) i).length=a.length:=fun i hi=>m9 _ _ _ (jR hi)
 have h:=ey (X:=XV) (T:=XV.lin 218) (L:=0) (live:=[0,1,5,6,7,8]) (b:=CZ) (n:=(a_ a b).length) (γ:=Unit) (st:=fun(A:List ax) j=>⟨[(0,.d (is a)),(1,.d (is b)),(5,.d (aH U A)),(6,.d (aH .sub (a_ a b))),(7,.d (aH .sub (bA a b))),(8,aa j)],[]⟩) (step:=AX a b)
  (F:=fun A=>(.exit 0,⟨[(0,.d (is a)),(1,.d (is b)),(5,.d (aH U A)),(6,.d (aH .sub (a_ a b))),(7,.d (aH .sub (bA a b))),(8,aa (a_ a b).length),(26,au false)],[]⟩)) (R:=fun _=>(.ret,⟨[],[]⟩))
  (fun A j=>0<j/\A=ek a b (j-1))
  (fun A _=>⟨by simp,by simp[CZ]⟩)
  (fun A j g l=>by
   obtain⟨V,M⟩:=l;have Z:=aV (n:=j) (by omega);have z:=Px a b hR (j-1);rw[<-M]at z;have O:=KF a (aP (a_ a b) j) 0 (by omega) (by rw[e j g];omega) (by rw[e j g];omega);have o:=qvT a b (aP (a_ a b) j) (a_ a b) (bA a b) A j g rfl (by omega) (by omega) (e j g) (by omega) C (by omega) (by omega) p;simp only[Ly]at o;have hS:A++gF a b (aP (a_ a b) j) (bA a b) ((bA a b).length-1)=ek a b (j+1-1):=by rw[M];obtain⟨i,rfl⟩:∃i,j=i+1:=⟨j-1,by omega⟩;rfl
   unfold AX;rw[hS]at o⊢
   generalize Y:aP (a_ a b) j=x at*
   have J:(a_ a b)[j]=x:=by rw[cQ g,Y]
   simp only[nv]at O;generalize W (bS a x 0 0 a.length)=d2 at*
   generalize ek a b (j+1-1)=q at o⊢
   refine⟨⟨_,by simp[CZ,g,Z,cut,J,O,o];rfl,by simp[aA,aB]⟩,fun a' h=>by simp at h;subst h;exact⟨by omega,rfl⟩⟩)
  ((a_ a b).length-1) (ek a b 0) 1 ⟨[(0,.d (is a)),(1,.d (is b)),(5,.d (aH U (ek a b 0))),(6,.d (aH .sub (a_ a b))),(7,.d (aH .sub (bA a b))),(8,aa 1)],[]⟩ (by omega) ⟨by omega,rfl⟩ (by simp[aA,aB])
 rw[Jz a b _ 0,dE]at h;simp only[Ly]at h;have P:=M5 a (by omega);have K:=M5 b (by omega);rw[Mc H]at P;rw[Mc D]at K;have s1:=Ez b.length (di a).toNat (by omega) (by omega);have I:=Ez a.length (di b).toNat (by omega) (by omega);rw[Int.toNat_of_nonneg (by omega)]at s1 I;have e1:ways b.length (di a).toNat=bA a b:=rfl;have e2:ways a.length (di b).toNat=a_ a b:=rfl;rw[e1]at s1;rw[e2]at I;have t:aH U (ek a b 0)=DV.sl U []:=rfl;rw[t]at h;generalize ek a b ((a_ a b).length-1)=q at*
 generalize a_ a b=lf at*
 generalize bA a b=rt at*
 simp[Ee,P,K,s1,I];rw[h];simp
theorem x8:∀n,n<6->∀m,m<5->(ways n m)[0]?=some (List.replicate n 0)/\(∀r,r∈ways n m->∀e,e∈r->(0:Int)<=e/\e<=4)/\(∀r,r∈(ways n m).drop 1->∃e,e∈r/\(0:Int)<e):=by decide+kernel
theorem GV(r:ax)(lo hi:Int)(d:lo<=0)(g:0<=hi)(h:∀e,e∈r->lo<=e/\e<=hi)(i:Nat):lo<=aE r i/\aE r i<=hi:=by
 unfold aE;cases hq:r[i]? with
 |none=>simpa using ⟨d,g⟩
 |some e=>simpa using h e (pm hq)
theorem sk(a x:ax)(o:Nat)(e:∀i,i<a.length->1<=aE a i/\aE a i<=4)(hx:∀i,0<=aE x i/\aE x i<=4):∀(k i:Nat),i+k<=a.length->0<=bS a x o i k/\bS a x o i k<=16*k
 |0,i,_=>by simp[bS]
 |k+1,i,h=>by
  have p:=sk a x o e hx k (i+1) (by omega);have g:=e i (by omega);have d:=hx (o+i);have j:0<=aE a i*aE x (o+i):=Int.mul_nonneg (by omega) d.1;have l:aE a i*aE x (o+i)<=4*4:=Int.mul_le_mul g.2 d.2 d.1 (by omega);simp only[bS]
  push_cast
  omega
theorem Fp(a x:ax)(o:Nat)(d:∀i,i<a.length->1<=aE a i/\aE a i<=4)(hx:∀i,0<=aE x i/\aE x i<=4):∀(k i j:Nat),i+k<=a.length->i<=j->j<i+k->0<aE x (o+j)->0<bS a x o i k
 |0,i,j,_,p,q,_=>by omega
 |k+1,i,j,h,p,q,e=>by
  have C:=sk a x o d hx k (i+1) (by omega);have z:=d i (by omega);have g:=hx (o+i);have t:0<=aE a i*aE x (o+i):=Int.mul_nonneg (by omega) g.1;simp only[bS]
  by_cases l:j=i
  ·subst l
   have:0<aE a j*aE x (o+j):=Int.mul_pos (by omega) e;omega
  ·have:=Fp a x o d hx k (i+1) j (by omega) (by omega) (by omega) e
   omega
theorem MD(a x:ax)(o:Nat):∀(k i:Nat),(∀j,i<=j->j<i+k->aE x (o+j)=0)->bS a x o i k=0
 |0,i,_=>rfl
 |k+1,i,h=>by simp only[bS];rw[h i (bI _) (by omega),MD a x o k (i+1) (fun j d e=>h j (by omega) (by omega))];omega
theorem Et(a x y:ax)(o d:Nat):∀(k i:Nat),(∀j,i<=j->j<i+k->aE x (o+j)=aE y (d+j))->bS a x o i k=bS a y d i k
 |0,i,_=>rfl
 |k+1,i,h=>by simp only[bS];rw[h i (bI _) (by omega),Et a x y o d k (i+1) (fun j e g=>h j (by omega) (by omega))]
theorem C0(x y:ax)(i:Nat)(h:i<x.length):aE (x++y) i=aE x i:=by unfold aE;rw[d8 h]
theorem Ls(x y:ax)(i:Nat):aE (x++y) (x.length+i)=aE y i:=by unfold aE;rw[dx (by omega)];congr 2;omega
theorem Fs(n i:Nat):aE (List.replicate n 0) i=0:=by
 unfold aE;cases hq:(List.replicate n (0:Int))[i]? with
 |none=>rfl
 |some e=>have:=Og (pm hq);simp[this]
theorem C7{x:Int}(e:0<=x)(d:x<=1000):W x=x:=wrap_i64 (by omega) (by omega)
theorem KS(l:ax):∀(k i:Nat) (m:Int),(0<m\/∃j,i<=j/\j<i+k/\0<aE l j)->0<jf l i k m
 |0,i,m,h=>by
  rcases h with h|⟨j,e,o,_⟩
  ·exact h
  ·omega
 |k+1,i,m,h=>by
  simp only[jf];refine KS l k (i+1) _ ?_;rcases h with h|⟨j,e,o,g⟩
  ·left;split<;>omega
  ·by_cases d:j=i
   ·subst d;left;split<;>omega
   ·exact .inr ⟨j,by omega,by omega,g⟩
theorem Kc(l:ax)(d:∀j,aE l j=0):∀(k i:Nat),jf l i k 0=0
 |0,i=>rfl
 |k+1,i=>by simp only[jf,d];exact Kc l d k (i+1)
structure Way(n:Nat)(x:ax):Prop where
 len:x.length=n
 at_:∀i,0<=aE x i/\aE x i<=4
variable{x:ax}{n:Nat}
theorem Pu(j:n<=5)(g:m<=4)(h:x∈ways n m):Way n x:=⟨m9 n m x h,fun i=>GV x 0 4 (by omega) (by omega) (fun e d=>(x8 n (by omega) m (by omega)).2.1 x h e d) i⟩
theorem Jw(d:n<=5)(e:m<=4):aP (ways n m) 0=List.replicate n 0:=by have:=(x8 n (by omega) m (by omega)).1;simp[aP,this]
theorem Km(q:n<=5)(p:m<=4)(hi:i+1<(ways n m).length):∃j,j<n/\0<aE (aP (ways n m) (i+1)) j:=by
 have d:aP (ways n m) (i+1)∈(ways n m).drop 1:=by rw[<-cQ hi];exact jC.2 ⟨i,by rw[DD,HV 1 i];simp[hi]⟩
 obtain⟨e,h,o⟩:=(x8 n (by omega) m (by omega)).2.2 _ d;obtain⟨j,g⟩:=jC.1 h;have l:=HM n m (i+1) hi;refine⟨j,by rw[<-l];exact(cw.1 g).1,?_⟩;simp[aE,g,o]
variable{y:ax}
theorem J2{a b:ax}(g:b_ a=true)(l:b_ b=true)(hx:Way a.length x)(hy:Way b.length y):rX a b (x++y)=decide (bS a x 0 0 a.length=bS b y 0 0 b.length):=by
 have la:=dA g;have F:=dA l;have C:=sk a x 0 (fun i hi=>mG g i hi) hx.at_ a.length 0 (by omega);have q:=sk b y 0 (fun i hi=>mG l i hi) hy.at_ b.length 0 (by omega);have t:bS a (x++y) 0 0 a.length=bS a x 0 0 a.length:=Et a _ _ 0 0 _ _ (fun j o h=>by have:=hx.len;simp only[dE];exact C0 x y j (by omega))
 have z:bS b (x++y) a.length 0 b.length=bS b y 0 0 b.length:=Et b _ _ a.length 0 _ _ (fun j o h=>by rw[<-hx.len,Ls,dE])
 have d:aR (kZ (x++y)) (x++y).length 0=none:=by
  cases hq:aR (kZ (x++y)) (x++y).length 0 with
  |none=>rfl
  |some j=>
   obtain⟨_,h,e⟩:=dy _ _ _ _ hq;exfalso;unfold kZ at e;simp only[cB]at e
   by_cases p:j<x.length
   ·rw[C0 x y j p]at e
    have:=(hx.at_ j).1;omega
   ·obtain⟨i,rfl⟩:∃i,j=x.length+i:=⟨j-x.length,by omega⟩
    rw[Ls]at e;have:=(hy.at_ i).1;omega
 unfold rX;rw[d,t,z,C7 C.1 (by omega),C7 q.1 (by omega)];have D:(x++y).length=a.length+b.length:=by rw[cG,hx.len,hy.len]
 simp[D];rw[pY];simp
theorem N4{a b:ax}(d:b_ a=true)(e:b_ b=true)(hx:Way a.length x)(hy:Way b.length y):qc a b x y=decide (bS a x 0 0 a.length=bS b y 0 0 b.length):=by have la:=dA d;have l:=dA e;have j:=sk a x 0 (fun i hi=>mG d i hi) hx.at_ a.length 0 (by omega);have g:=sk b y 0 (fun i hi=>mG e i hi) hy.at_ b.length 0 (by omega);unfold qc;rw[C7 j.1 (by omega),C7 g.1 (by omega),pY];simp only[vG,cB];constructor<;>exact fun h=>h.symm
theorem RE(g:0<x.length)(h:∃j,j<x.length/\0<aE x j):0<di (x++y):=by
 obtain⟨j,l,d⟩:=h;have o:(x++y).length=x.length+y.length:=cG;unfold di;refine KS _ _ _ _ ?_
 by_cases e:j=0
 ·subst e
  left;rw[C0 x y 0 g];exact d
 ·right
  exact⟨j,by omega,by omega,by rw[C0 x y j l];exact d⟩
theorem S5{a b:ax}(e:b_ a=true)(d:b_ b=true):fL a b=ek a b ((a_ a b).length-1):=by
 have la:=dA e;have t:=dA d;have ma:=jO e;have Z:=jO d;have na:(di a).toNat<=4:=by omega
 have nb:(di b).toNat<=4:=by omega
 have K:0<(bA a b).length:=xa _ _;have z:0<(a_ a b).length:=xa _ _;have F:∀i,i<(a_ a b).length->Way a.length (aP (a_ a b) i):=fun i hi=>Pu la.2 nb (jR hi)
 have p:∀i,i<(bA a b).length->Way b.length (aP (bA a b) i):=fun i hi=>Pu t.2 na (jR hi)
 have M:aP (a_ a b) 0=List.replicate a.length 0:=Jw la.2 nb;have C:aP (bA a b) 0=List.replicate b.length 0:=Jw t.2 na;have P:∀i,i+1<(a_ a b).length->∃j,j<a.length/\0<aE (aP (a_ a b) (i+1)) j:=fun i hi=>Km la.2 nb hi
 have J:∀i,i+1<(bA a b).length->∃j,j<b.length/\0<aE (aP (bA a b) (i+1)) j:=fun i hi=>Km t.2 na hi
 have H:∀(c:ax) (n:Nat),bS c (List.replicate n 0) 0 0 c.length=0:=fun c n=>MD c _ 0 _ _ (fun j _ _=>Fs _ _)
 have s0:∀k,k<=(bA a b).length->dN a b (aP (a_ a b) 0) (bA a b) k=[]:=by
  intro k
  induction k with
  |zero=>intro _;simp[dN]
  |succ k o=>
   intro g;rw[DK a b _ _ k (by omega),o (by omega)];have q:iS a b (aP (a_ a b) 0++aP (bA a b) k)=false:=by
    have V:=J2 e d (F 0 z) (p k (by omega));unfold iS;rw[V,M,H];cases k with
    |zero=>
     rw[C];have:di (List.replicate a.length 0++List.replicate b.length 0)=0:=by rw[XU];unfold di;rw[Fs];exact Kc _ (fun j=>Fs _ j) _ _
     rw[this];rfl
    |succ k=>
     obtain⟨j,X,O⟩:=J k (by omega);have:=Fp b (aP (bA a b) (k+1)) 0 (fun i hi=>mG d i hi) (p (k+1) (by omega)).at_ b.length 0 j (by omega) (by omega) (by omega) (by rw[dE];exact O);have h:¬((0:Int)=bS b (aP (bA a b) (k+1)) 0 0 b.length):=by omega
     simp[h]
   rw[q];rfl
 have s1:∀i,i+1<(a_ a b).length->∀k,k+1<=(bA a b).length->dN a b (aP (a_ a b) (i+1)) (bA a b) (k+1)=gF a b (aP (a_ a b) (i+1)) (bA a b) k:=by
  intro i hi k;have l:=F (i+1) hi;obtain⟨j,I,D⟩:=P i hi;have Y:=Fp a (aP (a_ a b) (i+1)) 0 (fun i hi=>mG e i hi) l.at_ a.length 0 j (by omega) (by omega) (by omega) (by rw[dE];exact D);have R:∀y,0<di (aP (a_ a b) (i+1)++y):=fun y=>RE (by rw[l.len];omega) ⟨j,by rw[l.len];exact I,D⟩
  have q:∀k,k<(bA a b).length->iS a b (aP (a_ a b) (i+1)++aP (bA a b) k)=qc a b (aP (a_ a b) (i+1)) (aP (bA a b) k):=fun k g=>by unfold iS;rw[J2 e d l (p k g),N4 e d l (p k g)];simp[R]
  induction k with
  |zero=>
   intro g;rw[DK a b _ _ 0 (by omega),q 0 (by omega),N4 e d l (p 0 (by omega)),C,H];have h:¬(bS a (aP (a_ a b) (i+1)) 0 0 a.length=0):=by omega
   simp[h,dN,gF]
  |succ k o=>intro g;rw[DK a b _ _ (k+1) (by omega),o (by omega),q (k+1) (by omega),ME]
 have main:∀k,k+1<=(a_ a b).length->d6 a b (k+1)=ek a b k:=by
  intro k
  induction k with
  |zero=>intro g;rw[yh a b 0 (by omega),s0 _ (bI _)];simp[d6,ek]
  |succ k o=>intro g;rw[yh a b (k+1) (by omega),o (by omega),Nm];have:=s1 k (by omega) ((bA a b).length-1) (by omega);rw[show(bA a b).length-1+1=(bA a b).length by omega]at this;rw[this]
 have:=main ((a_ a b).length-1) (by omega);rw[show(a_ a b).length-1+1=(a_ a b).length by omega]at this;exact this
theorem qsS(a b:ax)(la:a.length<=1099511627776)(l:b.length<=1099511627776):
 aj XV 208 [.d (is a),.d (is b)] []=some (.d (.tup (if b_ a=true/\b_ b=true/\(bL a b).length<=60 then [.sl U ((bL a b).map (ints .sub)),.bool true]else [.sl U [],.bool false])),[]):=by
 rw[aK 208 rc rfl];have f1:=NI a la;have f2:=NI b l;cases ha:b_ a with
 |false=>rw[ha]at f1;simp[rc,f1]
 |true=>
  rw[ha]at f1;cases hb:b_ b with
  |false=>rw[hb]at f2;simp[rc,f1,f2]
  |true=>
   rw[hb]at f2;have la:=dA ha;have l:=dA hb;have C:=jO ha;have q:=jO hb;have p:(bA a b).length<=126:=kL _ _ (by omega) (by omega);have z:(a_ a b).length<=126:=kL _ _ (by omega) (by omega);have t:=Ej a b p (a_ a b).length (bI _);have j:=QU a b ha hb;rw[<-S5 ha hb]at j;have h:=QC (fL a b) (a.length+b.length) (by unfold fL;omega) (by omega) (fun i hi=>Gx a b _ _ (jR hi));simp only[Jb]at h;have o:iC (fL a b) (fL a b).length=bL a b:=rfl;rw[o]at h;generalize fL a b=al at*
   by_cases g:(bL a b).length<=60
   ·have e:¬(60:Int)<(bL a b).length:=by omega
    generalize bL a b=bl at*
    simp[rc,f1,f2,j];rw[h];simp[g,e]
   ·have e:(60:Int)<(bL a b).length:=by omega
    generalize bL a b=bl at*
    simp[rc,f1,f2,j];rw[h];simp[g,e]
def Ld(bs:ax)(pos st:Int):aG:=[.d (.sl .sub (bs.map (.int .u8))),aa pos,aa st]
variable{c:aG}{B:az}
theorem Ux(h:i<B.length):b5 (B.set i (some c)) i=some c:=by simp[b5,h]
theorem Zg(h:b5 B i=some c):i<B.length:=by
 rcases lP i B.length with d|d
 ·exact d
 ·simp[b5,jm d]at h
def Turned(bs:ax)(i:Nat)(B B':az):Prop:=∃pos st:Int,(0<=pos/\pos<=bs.length)/\B'=B.set i (some (Ld bs pos st))
def qLn(bs:ax)(i:Nat)(B:az):Prop:=∃pos st:Int,(0<=pos/\pos<=bs.length)/\b5 B i=some (Ld bs pos st)
variable{B':az}
theorem Turned.at{bs:ax}(hi:i<B.length)(h:Turned bs i B B'):qLn bs i B':=by obtain⟨pos,st,d,rfl⟩:=h;exact⟨pos,st,d,Ux hi⟩
theorem Turned.len{bs:ax}(h:Turned bs i B B'):B'.length=B.length:=by obtain⟨pos,st,d,rfl⟩:=h;simp
theorem Turned.trans{bs:ax}{d:az}(h:Turned bs i B B')(h':Turned bs i B' d):Turned bs i B d:=by obtain⟨pos,st,j,rfl⟩:=h;obtain⟨pos',e,g,rfl⟩:=h';exact⟨pos',e,g,by simp⟩
theorem qLn.lt{bs:ax}(h:qLn bs i B):i<B.length:=by obtain⟨_,_,_,h⟩:=h;exact Zg h
@[simp high] theorem qWM(l:ax):(l.map (DV.int .u8)).map DV.clr=l.map (DV.int .u8):=by simp[eX,mf]
def bc(ways:List ax)(m:Nat):Nat->List ax
 |0=>[]
 |i+1=>if m.testBit i then bc ways m i++[aP ways i]else bc ways m i
theorem wV(ways:List ax)(m:Nat):∀i,(bc ways m i).length<=i
 |0=>bI _
 |i+1=>by have:=wV ways m i;unfold bc;split<;>simp<;>omega
theorem Pd(a:List ax)(n:ax)(h:a.length<=1099511627776):bU 1 24 (.sl U (a.map (ints .sub))) (.sl U [ints .sub n])=some (.sl U ((a++[n]).map (ints .sub))):=by
 have d:(a.map (ints .sub)).all (fun e=>decide (e.cells.length=1))=true:=by
  rw[cm];intro y hy
  obtain⟨z,_,rfl⟩:=cC.1 hy;rfl
 unfold bU;simp only;rw[ay (by rfl)];simp only[ge,bg,if_false];rw[ay ⟨by simp;omega,trivial,d⟩];simp
section
variable (f next:Int) (all:ah) (ways:List ax) (others:bh) (u:aF) (k N:Nat)
def jp(m:Nat):aI:=[(0,.ptr k 0),(3,.d (bf others)),(4,.d (binds .sub u)),(5,aa next),(7,.ptr N 0),(18,.d (aH .sub ways)),(20,.d (ao .sub all)),(21,aa m)]
def jT(m:Nat)(C:DV)(i:Nat):aI:=[(0,.ptr k 0),(3,.d (bf others)),(4,.d (binds .sub u)),(5,aa next),(7,.ptr N 0),(18,.d (aH .sub ways)),(20,.d (ao .sub all)),(21,aa m),(22,.d C),(86,.d (aH .sub ways)),(87,aa ways.length),(88,aa i)]
theorem SZ(m:Nat)(Bx:az)(D:Bx.length=N+2)(J:k<N)(I:ways.length<=30)(K:m<1099511627776):
 bq XV (XV.lin 268) (N+2) [0,3,4,5,7,18,20,21,22,86,87,88] sn ⟨jT next all ways others u k N m (.sl U []) 0,Bx⟩=
  some (.exit 2,⟨jT next all ways others u k N m (.sl U ((bc ways m ways.length).map (ints .sub))) ways.length++[(89,au false)],Bx⟩):=by
 have z:Bx.take (N+2)=Bx:=dD (by omega);have g:k<N+2:=by omega
 have h:=dW (X:=XV) (T:=XV.lin 268) (L:=N+2) (live:=[0,3,4,5,7,18,20,21,22,86,87,88]) (b:=sn) (n:=ways.length) (γ:=Unit) (R:=fun _=>(.ret,⟨[],[]⟩)) (step:=fun _ _=> .inl ())
  (st:=fun(_:Unit) i=>⟨jT next all ways others u k N m (.sl U ((bc ways m i).map (ints .sub))) i,Bx⟩) 2 89 (fun _ _=>True) ()
  (fun _ _=>by simp[sn,fA,fh,ft,fi,fu,fO,fj,fJ,fW,fC,fl,fg,fE,fo,fz,fZ,fa,fB,fI,fe,fY,jT])
  (fun _ i hi _=>by
   have o:=aV (n:=i) (by omega);have F:=wV ways m i;have H:=Pd (bc ways m i) (aP ways i) (by omega);have j:=Mr m i (by omega);have C:m/2^i<4611686018427387904:=Nat.lt_of_le_of_lt (Nat.div_le_self _ _) (by omega);have d:=and_one (m/2^i) C;have e:=Pq m i;generalize m/2^i=q at j d e;generalize q%2=r at d e;have l:=cQ hi;have p:bc ways m (i+1)=if m.testBit i then bc ways m i++[aP ways i]else bc ways m i:=rfl
   generalize aP ways i=row at*
   refine⟨?_,fun _ _=>trivial⟩
   by_cases t:m.testBit i=true
   ·rw[ay t]at p
    refine⟨⟨jT next all ways others u k N m (.sl U ((bc ways m (i+1)).map (ints .sub))) (i+1),Bx⟩,?_,by simp[jT,aA,aB,D,z,g]⟩;rw[p];generalize (bc ways m i++[row]).map (ints .sub)=L2 at*
    generalize (bc ways m i).map (ints .sub)=L1 at*
    simp only[JP]at H;simp[sn,fA,fh,ft,fi,fu,fO,fj,fJ,fW,fC,fl,fg,fE,fo,fz,fZ,fa,fB,fI,fe,fY,jT,hi,o,cut,l,H,j,d,e,t,splice]
   ·rw[aC t]at p
    refine⟨⟨jT next all ways others u k N m (.sl U ((bc ways m (i+1)).map (ints .sub))) (i+1),Bx⟩,?_,by simp[jT,aA,aB,D,z,g]⟩;rw[p];simp[sn,fA,fh,ft,fi,fu,fO,fj,fJ,fW,fC,fl,fg,fE,fo,fz,fZ,fa,fB,fI,fe,fY,jT,hi,o,cut,l,j,d,e,t,splice])
  trivial (by simp[jT,aA,aB,D,z,g,bc])
 rw[dB]at h;exact h
end
theorem KM(n:Nat)(g:n<=40):d7 .shl .i64 1 (n:Int)=some (.int .i64 ((2^n:Nat):Int)):=by
 unfold d7;have e:¬((n:Int)<0):=by omega
 have h:IntKind.i64.bits=64:=rfl;have d:min n 64=n:=by omega
 have j:2^n<=2^40:=GG (by omega) g;simp only[aC e,tI,h,d,ca,DV.int.injEq,qx,Int.one_mul];rw[show((2:Int)^n)=((2^n:Nat):Int)by rw[Int.natCast_pow];rfl,IntKind.wrap_i64];generalize 2^n=q at*
 omega
def me(D:Nat->Bool)(_:Unit)(i:Nat):Unit⊕Nat:=if D i then .inr i else .inl ()
inductive UEv where
 |step
 |bad
 |found (u:aF)
abbrev ei:=List UEv
def US.ev(S:US)(e:UEv):US:=
 if S.over then S else match e with
 | .step=>{S with work:=S.work+1,over:=decide (400<S.work+1)}
 | .bad=>S.bad
 | .found u=>{S with told:=if jo S.told u then S.told else S.told++[u],over:=decide (60<(if jo S.told u then S.told else S.told++[u]).length)}
def US.run(S:US)(es:ei):US:=es.foldl US.ev S
theorem US.qeM(S:US)(h:S.over=true):∀es,S.run es=S
 | []=>rfl
 |e::es=>by
  have:S.ev e=S:=by unfold US.ev;rw[ay h]
  show US.run (S.ev e) es=S;rw[this];exact US.qeM S h es
theorem US.qqC(S:US)(a b:ei):S.run (a++b)=(S.run a).run b:=xO
theorem US.qh4(S:US):S.run []=S:=rfl
theorem US.qgO(S:US)(e:UEv)(b:ei):S.run (e::b)=(S.ev e).run b:=rfl
theorem US.qvk(S:US)(E:Nat->ei)(n:Nat):S.run ((List.range (n+1)).flatMap E)=(S.run ((List.range n).flatMap E)).run (E n):=by rw[List.range_succ,FU,US.qqC];simp
theorem qvI(g e h:Tag)(q:e≠.nil)(z:h≠.nil)(a b:ah)(D:0<a.length)(C:a.length+b.length<=1099511627776):
 aj XV 272 [.d (.sl g [ao e a,ao h b])] []=some (.d (ao .sub (a++b)),[]):=by
 rw[vk XV 272 _ _ (kx 3 40) rfl];have j:rowsOf [ao e a,ao h b]=some [a.map (T.enc e),b.map (T.enc h)]:=rfl;have o:[a.map (T.enc e),b.map (T.enc h)].flatten=a.map (T.enc e)++b.map (T.enc h):=by simp
 have p:∀(g:Tag) (l:ah),(l.map (T.enc g)).all (fun x=>decide (x.cells.length=3))=true:=fun g l=>by
  rw[cm];intro x hx
  obtain⟨t,_,rfl⟩:=cC.1 hx;simp
 simp only[bd,b9,bO,kx,j,o];rw[ay ⟨by rw[HE,p,p];rfl,by simp,by simp;omega⟩,aC (by simp only[cG,cT];omega)];simp only[cL,F0 e q,F0 h z,b9,ao]
def gx(all:ah)(ways:List ax)(i:Nat):Bool:=pD all (dQ (bc ways (i+1) ways.length) all.length)
theorem Jt(ps:List ax)(n:Nat)(h:1<=n/\n<=1000):(dQ ps n).length=n:=by unfold dQ;rw[ay (by omega),qp];simp
variable{k:Nat}{α:Type}
theorem lp{Q:List α}{x:α}(h:Q[k]?=some x):Q.set k x=Q:=by have:=List.set_getElem_self (as:=Q) (q_len h);rwa[dm h]at this
variable{s:aD}
section
variable (f next:Int) (all:ah) (ways:List ax) (others:bh) (u:aF) (k N:Nat)
theorem WR(Q:az)(hQ:Q.length=N)(S:US)(hq:Q[k]?=some (some (uB s S)))(xv yf yv:Int)(xk yk:ah)(E:Nat->ei)(hl:ways.length<=8)(b1:1<=all.length/\all.length<=1000)
 (hw:∀m,WaysOk (bc ways m ways.length) all.length) (hE:∀i,gx all ways i=false->E i=[])
 (x1:∀i S' Q',i+1<2^ways.length->S'=S.run ((List.range i).flatMap E)->S'.over=false->gx all ways i=true->Q'[k]?=some (some (uB s S'))->
  aj XV 274 [.ptr k 0,aa f,.d (ao .sub all),.d (aH .sub (bc ways (i+1) ways.length)),.d (bf others),.d (binds .sub u),aa next] Q'=some (.d (.tup []),Q'.set k (some (uB s (S'.run (E i)))))):
 ∃r,bq XV (XV.lin 268) (N+2) [0,3,4,5,7,18,20,21] mP ⟨jp next all ways others u k N 1,Q++[some [aa f,aa xv,.d (ao .sub xk)],some [aa yf,aa yv,.d (ao .sub yk)]]⟩=
  some (.exit 0,⟨r,Q.set k (some (uB s (S.run ((List.range (2^ways.length-1)).flatMap E))))++[some [aa f,aa xv,.d (ao .sub xk)],some [aa yf,aa yv,.d (ao .sub yk)]]⟩):=by
 have hk:k<N:=by rw[<-hQ];exact q_len hq
 obtain⟨z,H⟩:∃z:Nat->US,∀i,z i=S.run ((List.range i).flatMap E):=⟨_,fun _=>rfl⟩;have a3:z 0=S:=by rw[H];rfl
 have V:∀i,z (i+1)=(z i).run (E i):=fun i=>by rw[H,H,US.qvk]
 obtain⟨bx,Y⟩:∃bx:az,bx=[some [aa f,aa xv,.d (ao .sub xk)],some [aa yf,aa yv,.d (ao .sub yk)]]:=⟨_,rfl⟩;have a2:bx.length=2:=by rw[Y];rfl
 obtain⟨e,g⟩:∃e:Nat->az,∀i,e i=Q.set k (some (uB s (z i)))++bx:=⟨_,fun _=>rfl⟩;have p:∀i,(e i).length=N+2:=fun i=>by rw[g];simp[hQ,a2]
 have h2:∀i,(e i)[k]?=some (some (uB s (z i))):=fun i=>by rw[g];exact dv (by rw[pa (by omega)]) _
 have x3:∀i,(e i)[N]?=some (some [aa f,aa xv,.d (ao .sub xk)]):=fun i=>by rw[g,Y,dx (by simp[hQ])];simp[hQ]
 have a1:e 0=Q++bx:=by rw[g,a3,lp hq]
 obtain⟨D,hD⟩:∃D:Nat->Bool,∀i,D i=(z i).over:=⟨_,fun _=>rfl⟩;rw[<-Y,<-a1,<-H,<-g];have hpow:2^ways.length<=2^8:=GG (by omega) hl;have hp1:1<=2^ways.length:=Nat.one_le_two_pow;have t:=KM ways.length (by omega);have o:k<N+2:=by omega
 have hT:∀i,(e i).take (N+2)=e i:=fun i=>dD (by rw[p];omega)
 have hU:∀S:US,uB s S=[.d (sg s),.d (dI S.told),aa S.work,au S.over]:=fun _=>rfl
 have h:=bG (X:=XV) (T:=XV.lin 268) (L:=N+2) (live:=[0,3,4,5,7,18,20,21]) (b:=mP) (n:=2^ways.length-1) (γ:=Nat)
  (st:=fun(_:Unit) i=>⟨jp next all ways others u k N (i+1),e i⟩) (step:=me D)
  (F:=fun _=>(.exit 0,⟨jp next all ways others u k N (2^ways.length-1+1)++[(82,au false)],e (2^ways.length-1)⟩)) (R:=fun i=>(.exit 0,⟨jp next all ways others u k N (i+1)++[(82,au false)],e i⟩))
  (fun _=>⟨by simp,by
   have q:¬((2^ways.length-1+1:Nat):Int)<((2^ways.length:Nat):Int):=by omega
   have Z:=p (2^ways.length-1);simp only[jp];generalize ((2^ways.length:Nat):Int)=M at*
   generalize ((2^ways.length-1+1:Nat):Int)=m at*
   generalize e (2^ways.length-1)=B at*
   simp[mP,fA,fh,ft,fi,fu,fO,fj,fJ,fW,fC,fl,fg,fE,fo,fz,fZ,fa,fB,fI,fe,fY,jp,t,q,o,Z]⟩)
  (fun _ i hi=>by
   have h3:=aV (n:=i+1) (by omega);have q:((i+1:Nat):Int)<((2^ways.length:Nat):Int):=by omega
   have Z:=p i;have l:=h2 i;rw[hU]at l;unfold me;have K:=hD i;generalize hdd:D i=dd at K;cases dd with
   |true=>
    rw[<-K]at l;simp only[if_true];refine⟨by simp,?_⟩;simp only[jp];generalize ((2^ways.length:Nat):Int)=M at*
    generalize ((i+1:Nat):Int)=m at*
    generalize e i=B at*
    simp[mP,fA,fh,ft,fi,fu,fO,fj,fJ,fW,fC,fl,fg,fE,fo,fz,fZ,fa,fB,fI,fe,fY,t,q,o,Z,dm l,l]
   |false=>
    rw[<-K]at l;simp only[bg,if_false];have P:=SZ next all ways others u k N (i+1) (e i) (p i) hk (by omega) (by omega);have O:=qB7 (bc ways (i+1) ways.length) all.length (by have:=(hw (i+1)).len;omega) (fun j hj=>by rw[(hw (i+1)).row j hj];omega);have x2:=Jt (bc ways (i+1) ways.length) all.length b1;have C:=VO all (dQ (bc ways (i+1) ways.length) all.length) x2 (by omega);simp only[JA,jT,dC]at P;have h4:∀v,(e i).set k v=Q.set k v++bx:=fun v=>by rw[g,gn (by rw[pa (by omega)]),wB]
    have I:e (i+1)=if gx all ways i then(e i).set k (some (uB s ((z i).run (E i))))else e i:=by
     split
     ·rw[h4,g,V]
     ·rename_i b2
      rw[g,g,V,hE i (by simpa using b2),US.qh4]
    have J:=x1 i (z i) (e i) (by omega) (H i) K.symm;refine⟨⟨jp next all ways others u k N (i+1+1),e (i+1)⟩,?_,by simp[jp,aA,aB,p,hT,o]⟩;have c1:pD all (dQ (bc ways (i+1) ways.length) all.length)=gx all ways i:=rfl;rw[c1]at C;generalize gx all ways i=ff at*
    generalize hch:bc ways (i+1) ways.length=ch at*
    simp only[jp];have h5:=x3 i;have c2:=p (i+1);cases ff with
    |false=>
     simp only[bg,if_false]at I;rw[I];generalize ((2^ways.length:Nat):Int)=M at*
     generalize ((i+1:Nat):Int)=m at*
     generalize ((i+1+1:Nat):Int)=m2 at*
     generalize e i=B at*
     simp[mP,fA,fh,ft,fi,fu,fO,fj,fJ,fW,fC,fl,fg,fE,fo,fz,fZ,fa,fB,fI,fe,fY,t,q,o,Z,dm l,l];rw[P];simp[mP,fA,fh,ft,fi,fu,fO,fj,fJ,fW,fC,fl,fg,fE,fo,fz,fZ,fa,fB,fI,fe,fY,t,q,o,Z,O,C,h3]
    |true=>
     have J:=J rfl (h2 i);simp only[if_true]at I;rw[<-I]at J;generalize e (i+1)=B2 at*
     generalize ((2^ways.length:Nat):Int)=M at*
     generalize ((i+1:Nat):Int)=m at*
     generalize ((i+1+1:Nat):Int)=m2 at*
     generalize e i=B at*
     simp[mP,fA,fh,ft,fi,fu,fO,fj,fJ,fW,fC,fl,fg,fE,fo,fz,fZ,fa,fB,fI,fe,fY,t,q,o,Z,dm l,l];rw[P];simp[mP,fA,fh,ft,fi,fu,fO,fj,fJ,fW,fC,fl,fg,fE,fo,fz,fZ,fa,fB,fI,fe,fY,t,q,o,Z,c2,O,C,h3,dm h5,h5,J,splice])
  (2^ways.length-1) () 0 ⟨jp next all ways others u k N 1,e 0⟩ (by omega) (by simp[jp,aA,aB,p,hT,o])
 have h1:∀n i,match runN (me D) n () i with| .inl _=>True| .inr j=>e j=e (i+n):=by
  intro n
  induction n with
  |zero=>intro i;trivial
  |succ n ih=>
   intro i;simp only[runN,me];cases hd0:D i with
   |true=>
    simp only[if_true];have:∀m,z (i+m)=z i:=fun m=>by
     induction m with
     |zero=>rfl
     |succ m ihm=>rw[<-Nat.add_assoc,V,ihm,US.qeM _ (by rw[<-hD,hd0])]
    rw[g,g,this]
   |false=>simp only[bg,if_false];have:=ih (i+1);rwa[show i+1+n=i+(n+1)by omega]at this
 have hr:=h1 (2^ways.length-1) 0;rw[h];cases hrn:runN (me D) (2^ways.length-1) () 0 with
 |inl a=>exact⟨_,rfl⟩
 |inr j=>rw[hrn]at hr;simp only[dE]at hr;rw[<-hr];exact⟨_,rfl⟩
end
theorem IG{a b z:ax}(j:b_ a=true)(o:b_ b=true)(h:z∈bL a b):z.length=a.length+b.length/\∀e,e∈z->0<=e/\e<=4:=by
 have g:z∈fL a b:=pT (GL.1 h).1;have la:=dA j;have p:=dA o;have q:=jO j;have t:=jO o;refine⟨Gx a b _ z g,?_⟩;unfold fL d6 at g;obtain⟨x,hx,l⟩:=tX.1 g;unfold dN at l;obtain⟨y,hy,rfl⟩:=cC.1 (GL.1 l).1;have f1:=(x8 a.length (by omega) (di b).toNat (by omega)).2.1 x (pT hx);have f2:=(x8 b.length (by omega) (di a).toNat (by omega)).2.1 y (pT hy);intro e d;rcases bw.1 d with d|d
 ·exact f1 e d
 ·exact f2 e d
theorem yB{ways:List ax}:∀{n:Nat} {z:ax},n<=ways.length->z∈bc ways m n->z∈ways
 |0,z,_,h=>by simp[bc]at h
 |n+1,z,d,h=>by
  unfold bc at h;split at h
  ·rcases bw.1 h with h|h
   ·exact yB (by omega) h
   ·rw[fS.1 h];exact jR (by omega)
  ·exact yB (by omega) h
theorem GH{a b:ax}(d:b_ a=true)(g:b_ b=true)(h:(bL a b).length<=8)(m:Nat):WaysOk (bc (bL a b) m (bL a b).length) (a.length+b.length):=by
 have e:=wV (bL a b) m (bL a b).length;refine⟨by omega,fun i hi=>(IG d g (yB (bI _) (jR hi))).1,fun i p=> ?_⟩
 by_cases hi:i<(bc (bL a b) m (bL a b).length).length
 ·have:=(IG d g (yB (bI _) (jR hi))).2
  have:=GV (aP (bc (bL a b) m (bL a b).length) i) 0 4 (by omega) (by omega) this p;omega
 ·have:aP (bc (bL a b) m (bL a b).length) i=[]:=by unfold aP;rw[jm (by omega)];rfl
  rw[this];simp[aE]
theorem zR:∀(x:ah) (a:ah×ah),(∀t,t∈(x.foldl eF a).1->t∈a.1\/t∈x)/\(∀t,t∈(x.foldl eF a).2->t∈a.2)/\(x.foldl eF a).1.length<=a.1.length+x.length/\(x.foldl eF a).2.length<=a.2.length
 | [],a=>⟨fun t h=> .inl h,fun t h=>h,bI _,bI _⟩
 |t::x,a=>by
  obtain⟨d,l,o,p⟩:=zR x (eF a t);simp only[jv];have e:(∀q,q∈(eF a t).1->q∈a.1\/q=t)/\(∀q,q∈(eF a t).2->q∈a.2)/\(eF a t).1.length<=a.1.length+1/\(eF a t).2.length<=a.2.length:=by
   unfold eF;split
   ·exact⟨fun q h=> .inl h,fun q h=>AF h,by simp only;omega,Ed⟩
   ·exact⟨fun q h=>by simpa using h,fun q h=>h,by simp,bI _⟩
  obtain⟨g,j,e3,z⟩:=e;refine⟨fun q h=> ?_,fun q h=>j q (l q h),by simp only[c7];omega,by omega⟩;rcases d q h with h|h
  ·rcases g q h with h|h
   ·exact .inl h
   ·exact .inr (by simp[h])
  ·exact .inr (by simp[h])
theorem qi:∀(x:ah) (a:ah×ax),(∀t,t∈(x.foldl cntF a).1->t∈a.1\/t∈x)/\(x.foldl cntF a).1.length<=a.1.length+x.length
 | [],a=>⟨fun t h=> .inl h,bI _⟩
 |t::x,a=>by
  obtain⟨d,l⟩:=qi x (cntF a t);simp only[jv];have e:(∀q,q∈(cntF a t).1->q∈a.1\/q=t)/\(cntF a t).1.length<=a.1.length+1:=by
   unfold cntF;split
   ·exact⟨fun q h=> .inl h,by simp only;omega⟩
   ·exact⟨fun q h=>by simpa using h,by simp⟩
  obtain⟨g,j⟩:=e;refine⟨fun q h=> ?_,by simp only[c7];omega⟩;rcases d q h with h|h
  ·rcases g q h with h|h
   ·exact .inl h
   ·exact .inr (by simp[h])
  ·exact .inr (by simp[h])
theorem sQ(l:ah):(bz l).2.length=(bz l).1.length:=SE l ([],[]) rfl
def eW(rec:bh->aF->Int->ei)(s:aD)(f:Int)(all:ah)(ways:List ax)(others:bh)(u:aF)(next:Int)(m:Nat):ei:=if gx all ways m then(if 99<next+(bc ways (m+1) ways.length).length-1 then [.bad]else rec (db s f all (bc ways (m+1) ways.length) next all.length++others) u (next+(bc ways (m+1) ways.length).length))else []
def lr(a b:ax):Bool:=b_ a&&b_ b&&decide ((bL a b).length<=8)
def uA(rec:bh->aF->Int->ei)(s:aD)(f:Int)(xk yk:ah)(others:bh)(u:aF)(next:Int):ei:=
 if(bW xk yk).1.length=0\/(bW xk yk).2.length=0 then []else
 if lr (bz (bW xk yk).1).2 (bz (bW xk yk).2).2 then
  (List.range (2^(bL (bz (bW xk yk).1).2 (bz (bW xk yk).2).2).length-1)).flatMap (eW rec s f ((bz (bW xk yk).1).1++(bz (bW xk yk).2).1) (bL (bz (bW xk yk).1).2 (bz (bW xk yk).2).2) others u next)
 else [.bad]
section
variable {s:aD} (f xv yv next:Int) (xk yk:ah) (others:bh) (u:aF) (k:Nat) (S:US) (Q:az) (rec:bh->aF->Int->ei)
theorem Y_(hs:SgOk s)(z:Q[k]?=some (some (uB s S)))(x3:S.over=false)(hn:0<=next/\next<=1000)(a2:others.length<=1000000000)(lx:xk.length<=1099511627776)(ly:yk.length<=1099511627776)(bx:∀t,t∈xk->t.inner<=1099511627776)(h1:∀t,t∈yk->t.inner<=1099511627776)
 (C:∀all ways m S' Q',lr (bz (bW xk yk).1).2 (bz (bW xk yk).2).2=true->all=(bz (bW xk yk).1).1++(bz (bW xk yk).2).1->ways=bL (bz (bW xk yk).1).2 (bz (bW xk yk).2).2->gx all ways m=true->(∃i,S'=S.run ((List.range i).flatMap (eW rec s f all ways others u next)))->S'.over=false->Q'[k]?=some (some (uB s S'))->next+(bc ways (m+1) ways.length).length-1<=99->
  aj XV 263 [.ptr k 0,.d (bf (db s f all (bc ways (m+1) ways.length) next all.length++others)),.d (binds .sub u),aa (next+(bc ways (m+1) ways.length).length)] Q'=
   some (.d (.tup []),Q'.set k (some (uB s (S'.run (rec (db s f all (bc ways (m+1) ways.length) next all.length++others) u (next+(bc ways (m+1) ways.length).length))))))):
 aj XV 268 [.ptr k 0,.d ((T.node f xv xk).enc .sub),.d ((T.node f yv yk).enc .sub),.d (bf others),.d (binds .sub u),aa next] Q=some (.d (.tup []),Q.set k (some (uB s (S.run (uA rec s f xk yk others u next))))):=by
 rw[aK 268 nw rfl];have hk:=q_len z;have hU:∀S:US,uB s S=[.d (sg s),.d (dI S.told),aa S.work,au S.over]:=fun _=>rfl
 have q:=qEX xk yk lx ly bx h1
 obtain⟨M,J,Y,O⟩:=zR xk ([],yk);have M:∀t,t∈(bW xk yk).1->t∈xk:=fun t h=>by rcases M t h with h|h;(·simp at h);exact h
 have J:∀t,t∈(bW xk yk).2->t∈yk:=J;have Y:(bW xk yk).1.length<=xk.length:=by show(xk.foldl eF ([],yk)).1.length<=_;simpa using Y
 have O:(bW xk yk).2.length<=yk.length:=O;generalize h5:bW xk yk=ap at*
 obtain⟨l,r⟩:=ap;simp only at M J Y O q C;unfold uA;rw[h5];simp only;have n3:k<Q.length+1:=by omega
 have n4:k<Q.length+2:=by omega
 by_cases he:l.length=0\/r.length=0
 ·rw[ay he,US.qh4,lp z]
  by_cases a3:l.length=0
  ·have:l=[]:=gS.1 a3
   subst this;simp[nw,fA,fh,ft,fi,fu,fO,fj,fJ,fW,fC,fl,fg,fE,fo,fz,fZ,fa,fB,fI,fe,fY,hk,n3,n4,get_at,jb,splice,q]
  ·have a1:r.length=0:=by omega
   have:r=[]:=gS.1 a1;subst this;have D:(((l.length:Int))==0)=false:=dV (by omega);simp[nw,fA,fh,ft,fi,fu,fO,fj,fJ,fW,fC,fl,fg,fE,fo,fz,fZ,fa,fB,fI,fe,fY,hk,n3,n4,get_at,jb,splice,q,D]
 ·rw[aC he]
  have D:(((l.length:Int))==0)=false:=dV (by omega);have P:(((r.length:Int))==0)=false:=dV (by omega);have I:=OR l (by omega) (fun t h=>bx t (M t h));have H:=OR r (by omega) (fun t h=>h1 t (J t h));obtain⟨cm1,V⟩:=qi l ([],[]);obtain⟨dm1,X⟩:=qi r ([],[]);have ce:=sQ l;have de:=sQ r;have V:(bz l).1.length<=l.length:=by show(l.foldl cntF ([],[])).1.length<=_;simpa using V
  have X:(bz r).1.length<=r.length:=by show(r.foldl cntF ([],[])).1.length<=_;simpa using X
  have o:=TF (bz l).2 (bz r).2 (by omega) (by omega);generalize b2:bz l=c at*
  generalize b1:bz r=d at*
  obtain⟨c1,p⟩:=c;obtain⟨d1,d2⟩:=d;simp only at ce de V X o I H C⊢
  cases hbo:lr p d2 with
  |false=>
   have F:S.run [.bad]=S.bad:=by show S.ev .bad=_;unfold US.ev;rw[x3];rfl
   simp only[bg,if_false];rw[F]
   by_cases e:b_ p=true/\b_ d2=true/\(bL p d2).length<=60
   ·rw[ay e]at o
    have h8:(8:Int)<(bL p d2).length:=by unfold lr at hbo;rw[e.1,e.2.1]at hbo;simp at hbo;omega
    have h3:=BR s S;rw[<-h3,hU];rw[hU]at z;generalize bL p d2=W at*
    simp[nw,fA,fh,ft,fi,fu,fO,fj,fJ,fW,fC,fl,fg,fE,fo,fz,fZ,fa,fB,fI,fe,fY,hk,n3,n4,get_at,jb,splice,q,D,P,I,H,o,h8,dv z,gN z,gn z]
   ·rw[aC e]at o
    have h3:=BR s S;rw[<-h3,hU];rw[hU]at z;simp[nw,fA,fh,ft,fi,fu,fO,fj,fJ,fW,fC,fl,fg,fE,fo,fz,fZ,fa,fB,fI,fe,fY,hk,n3,n4,get_at,jb,splice,q,D,P,I,H,o,dv z,gN z,gn z]
  |true=>
   have j:b_ p=true/\b_ d2=true/\(bL p d2).length<=8:=by unfold lr at hbo;simpa[Ao]using hbo
   rw[ay ⟨j.1,j.2.1,by omega⟩]at o;have lc:=dA j.1;have ld:=dA j.2.1;have h8:¬(8:Int)<(bL p d2).length:=by omega
   have h4:=qvI .sub .sub .sub (by simp) (by simp) c1 d1 (by omega) (by omega);have K:=GH j.1 j.2.1 j.2.2;have x1:(c1++d1).length=p.length+d2.length:=by rw[cG];omega
   rw[<-x1]at K;have g:=WR f next (c1++d1) (bL p d2) others u k Q.length Q rfl S z xv f yv xk yk (eW rec s f (c1++d1) (bL p d2) others u next) j.2.2 (by omega) K (fun i h=>by unfold eW;rw[h];rfl) (fun i S' Q' hi x2 h2 hf R=>by
    unfold eW;rw[hf];simp only[if_true];have hwl:=(K (i+1)).len
    by_cases Z:99<next+(bc (bL p d2) (i+1) (bL p d2).length).length-1
    ·rw[ay Z]
     have F:S'.run [.bad]=S'.bad:=by show S'.ev .bad=_;unfold US.ev;rw[h2];rfl
     rw[F];exact ZQ s f next (c1++d1) _ others u k S' Q' R (by omega) hn Z
    ·rw[aC Z]
     exact qKK s f next (c1++d1) _ others u k S' Q' _ R hs.len (K _) hn (by omega) (by omega) a2 (by simp)
      (C _ _ i S' Q' hbo rfl rfl hf ⟨_,x2⟩ h2 R (by omega)))
   obtain⟨rr,g⟩:=g;simp only[if_true];simp only[JA,jp,dC,ao,cL]at g;generalize US.run S _=S2 at*
   generalize bL p d2=W at*
   simp[nw,fA,fh,ft,fi,fu,fO,fj,fJ,fW,fC,fl,fg,fE,fo,fz,fZ,fa,fB,fI,fe,fY,hk,n3,n4,get_at,jb,splice,q,D,P,I,H,o,h8,h4];rw[g];simp[nw,fA,fh,ft,fi,fu,fO,fj,fJ,fW,fC,fl,fg,fE,fo,fz,fZ,fa,fB,fI,fe,fY]
end
def US.st(S:US):US:={S with work:=S.work+1}
theorem jk{Q:List α}(h:k<Q.length)(v:α)(e:List α):(Q.set k v++e)[k]?=some v:=by rw[d8 (by simpa using h),pa h]
theorem ml{Q:List α}(h:k<Q.length)(v:α)(e:List α):∀h',(Q.set k v++e)[k]'h'=v:=dm (jk h v e)
theorem jJ{Q:List α}(h:k<Q.length)(v w:α)(e:List α):(Q.set k v++e).set k w=Q.set k w++e:=by rw[List.set_append_left _ _ (by simpa using h),wB]
section
variable {s:aD} (u:aF) (next:Int) (k:Nat) (S:US) (Q Q':az)
theorem mR(s:aD)(S:US):uB s S=[.d (sg s),.d (dI S.told),aa S.work,au S.over]:=rfl
theorem TJ(i:Nat)(w:aF)(j:small w)(g:small u)(hi:Q[i]?=some (some [.d (binds .sub u)])):
 aj XV 264 [.d (binds .sub w),.ptr i 0] Q=some (au (jc w u),Q):=by
 rw[aK 264 D2 rfl];have h:=qrF w u j.1 g.1 j.2 g.2;have e:=q_len hi;simp[D2,h,e,dm hi,hi]
theorem PY(e:List aF)(i:Nat)(o:e.length<=1099511627776)(l:∀w,w∈e->small w)(j:small u)(hi:Q[i]?=some (some [.d (binds .sub u)])):
 aj XV 265 [.d (nG .sub e),.fn 264 [.ptr i 0]] Q=some (au (jo e u),Q):=by
 rw[aK 265 Cl rfl];have g:=q_len hi;have h:=TV e 264 [.ptr i 0] Q (fun w=>jc w u) o (by simp[AV.safe.safes,AV.safe,g]) (by simp) (by simp) (fun w hx=>TJ u Q i w (l w hx) j hi);simp[Cl,h,g,jo];cases aR (fun i=>jc (gX e i) u) e.length 0<;>simp[bC]
theorem KZ(l:bh)(e:Q[k]?=some (some (uB s S)))(j:S.over=true):
 aj XV 263 [.ptr k 0,.d (bf l),.d (binds .sub u),aa next] Q=some (.d (.tup []),Q):=by
 rw[aK 263 eh rfl];have g:=q_len e;rw[mR,j]at e;have h:k<Q.length+1:=by omega
 simp[eh,fQ,fU,fG,gK,iG,gJ,f5,fK,gQ,gA,fc,gY,gw,gp,gi,gR,g9,h_,iz,gG,gC,gE,gj,gO,iM,gq,iV,g,h,dv e,gN e,splice]
theorem We(g:Q[k]?=some (some (uB s S)))(C:S.over=false)(J:S.told.length<=60)(D:∀w,w∈S.told->small w)(t:small u):
 aj XV 263 [.ptr k 0,.d (bf []),.d (binds .sub u),aa next] Q=some (.d (.tup []),Q.set k (some (uB s (S.ev (.found u))))):=by
 rw[aK 263 eh rfl];have j:=q_len g;have e:=PY u (Q++[some [.d (binds .sub u)]]) S.told Q.length (by omega) D t (by simp);have q:=qCn u t;have l:=ON S.told U u (by omega);have z:k<Q.length+1:=by omega
 have I:¬(Q.length+1<=k):=by omega
 have H:¬(Q.length+1<=Q.length):=by omega
 have F:S.ev (.found u)={S with told:=if jo S.told u then S.told else S.told++[u],over:=decide (60<(if jo S.told u then S.told else S.told++[u]).length)}:=by unfold US.ev;rw[C];rfl
 rw[F,mR];rw[mR,C]at g;simp only;cases hh:jo S.told u with
 |true=>
  rw[hh]at e;have p:decide (60<S.told.length)=false:=by simp;omega
  have h:¬(60:Int)<(S.told.length:Int):=by omega
  simp only[if_true,p];simp[eh,fQ,fU,fG,gK,iG,gJ,f5,fK,gQ,gA,fc,gY,gw,gp,gi,gR,g9,h_,iz,gG,gC,gE,gj,gO,iM,gq,iV,j,z,dv g,gN g,gn g,splice,e,h]
 |false=>
  rw[hh]at e;simp only[bg,if_false];have h:decide (60<(S.told++[u]).length)=decide ((60:Int)<(S.told.length:Int)+1):=by simp;omega
  have o:dI (S.told++[u])= .sl U (S.told.map (binds U)++[binds U u]):=by simp[dI]
  rw[h,o];simp[eh,fQ,fU,fG,gK,iG,gJ,f5,fK,gQ,gA,fc,gY,gw,gp,gi,gR,g9,h_,iz,gG,gC,gE,gj,gO,iM,gq,iV,j,z,dv g,gN g,gn g,splice,e,q,l,I,H,jk j,ml j,jJ j]
theorem qFh(l:bh)(t:l≠[])(e:Q[k]?=some (some (uB s S)))(C:S.over=false)(D:400<S.work+1)(q:S.work<=1000):
 aj XV 263 [.ptr k 0,.d (bf l),.d (binds .sub u),aa next] Q=some (.d (.tup []),Q.set k (some (uB s {S with work:=S.work+1,over:=true}))):=by
 rw[aK 263 eh rfl];have g:=q_len e;rw[mR]at e⊢
 rw[C]at e;have z:k<Q.length+1:=by omega
 have p:0<l.length:=yl.2 t;have j:(((l.length:Int))==0)=false:=dV (by omega);have h:IntKind.i64.wrap ((S.work:Int)+1)=((S.work+1:Nat):Int):=by rw[IntKind.wrap_i64];omega
 have o:(400:Int)<((S.work+1:Nat):Int):=by omega
 simp only;generalize ((S.work+1:Nat):Int)=m at*
 simp[eh,fQ,fU,fG,gK,iG,gJ,f5,fK,gQ,gA,fc,gY,gw,gp,gi,gR,g9,h_,iz,gG,gC,gE,gj,gO,iM,gq,iV,g,z,dv e,gN e,gn e,splice,j,h,o,jk g,ml g,jJ g]
end
section
variable {α:Type} (Q:List α) (k:Nat) (v a b c w:α) (r:List α)
theorem NV:(Q.set k v++a::r)[Q.length]?=some a:=EU (by simp) a r
theorem PE:(Q.set k v++a::b::r)[Q.length+1]?=some b:=T5 (by simp) a b r
theorem KX:(Q.set k v++a::b::c::r)[Q.length+1+1]?=some c:=QN (by simp) a b c r
theorem RI:∀h,(Q.set k v++a::r)[Q.length]'h=a:=dm (NV Q k v a r)
theorem V4:∀h,(Q.set k v++a::b::r)[Q.length+1]'h=b:=dm (PE Q k v a b r)
theorem WL:∀h,(Q.set k v++a::b::c::r)[Q.length+1+1]'h=c:=dm (KX Q k v a b c r)
theorem sS0:(Q.set k v++a::r).set Q.length w=Q.set k v++w::r:=Js (by simp) a w r
theorem sS1:(Q.set k v++a::b::r).set (Q.length+1) w=Q.set k v++a::w::r:=by rw[show Q.set k v++a::b::r=(Q.set k v++[a])++b::r by simp,show Q.length+1=(Q.set k v++[a]).length by simp];simp
theorem Tf:(Q.set k v++a::b::c::r).set (Q.length+1+1) w=Q.set k v++a::b::w::r:=by rw[show Q.set k v++a::b::c::r=(Q.set k v++[a,b])++c::r by simp,show Q.length+1+1=(Q.set k v++[a,b]).length by simp];simp
end
attribute [simp] NV PE KX RI V4 WL sS0 sS1 Tf
structure Eqs(s:aD)(u:aF)(S:US)(Q:az)(k:Nat)(a b x y:T):Prop where
 q:Q[k]?=some (some (uB s S))
 o:S.over=false
 w:S.work+1<=400
 hx:aj XV 135 [.d (sg s),.d (binds .sub u),.d (a.enc .sub)] []=some (.d (x.enc U),[])
 hy:aj XV 135 [.d (sg s),.d (binds .sub u),.d (b.enc .sub)] []=some (.d (y.enc U),[])
 bx:x.inner<=1099511627776
 b':y.inner<=1099511627776
def mZ:VCode:=
 match eh.code with
 | .seq _ (.seq _ (.seq _ (.seq _ (.seq _ (.seq _ (.seq _ b))))))=>b
 |_=> .skip
def cY(u:aF)(x y:T):az:=[some [.d (binds .sub u)],some [aa x.f,aa x.v,.d (ao U x.kids)],some [aa y.f,aa y.v,.d (ao U y.kids)]]
def eu(k N:Nat)(next:Int)(rest:bh):aI:=[(0,.ptr k 0),(3,aa next),(6,.ptr N 0),(8,.ptr (N+1) 0),(9,.ptr (N+1+1) 0),(10,.d (bf rest))]
section
variable {s:aD} {u:aF} {S:US} {Q:az} {k:Nat} {a b x y:T}
theorem tx(h:Eqs s u S Q k a b x y)(rest:bh)(next:Int)(X:rest.length<=1099511627776):
 aj XV 263 [.ptr k 0,.d (bf (⟨a,b⟩::rest)),.d (binds .sub u),aa next] Q=uh Q.length [] (aS XV (XV.lin 263) mZ ⟨eu k Q.length next rest,Q.set k (some (uB s S.st))++cY u x y⟩):=by
 rw[aK 263 eh rfl];obtain⟨e,z,Z,hx,hy,bx,b'⟩:=h;have g:=q_len e;have O:S.st=⟨S.told,S.work+1,false⟩:=by rw[<-z];rfl
 obtain⟨p,av,o⟩:=a;obtain⟨q,bv,t⟩:=b;obtain⟨xf,xv,xk⟩:=x;obtain⟨yf,yv,yk⟩:=y;rw[O,mR];rw[mR,z]at e;have D:k<Q.length+1:=by omega
 have H:k<Q.length+3:=by omega
 have Y:¬(Q.length+1<=k):=by omega
 have K:¬(Q.length+3<=k):=by omega
 have R:¬(Q.length+1<=Q.length):=by omega
 have I:¬(Q.length+1<Q.length):=by omega
 have J:¬(Q.length+1+1<Q.length+1):=by omega
 have V:¬(Q.length+1+1<Q.length):=by omega
 have F:(0:Int)<=(rest.length:Int):=by omega
 have j:(((rest.length:Int)+1)==0)=false:=dV (by omega);have l:IntKind.i64.wrap ((S.work:Int)+1)=((S.work+1:Nat):Int):=by rw[IntKind.wrap_i64];omega
 have C:¬(400:Int)<((S.work+1:Nat):Int):=by omega
 have P:List.take rest.length (rest.map (Eqn.enc .sub .sub))=rest.map (Eqn.enc .sub .sub):=dD (by simp);have M:(Eqn.mk (.node p av o) (.node q bv t)).enc .sub .sub= .agg [.int .i64 p,.int .i64 av,ao .sub o,.int .i64 q,.int .i64 bv,ao .sub t]:=rfl;simp only;generalize ((S.work+1:Nat):Int)=m at*
 simp[-FJ,eh,mZ,cY,eu,fQ,fU,fG,f5,fK,gA,fc,g,D,H,Y,K,R,I,J,V,M,dv e,gN e,gn e,splice,F,j,l,C,P,cut,hx,hy,jk g,ml g,jJ g]
theorem PL(h:Eqs s u S Q k a b x y)(rest:bh)(next:Int)(Q':az)(l:rest.length<=1099511627776)(hc:(T.cmp x y==0)=true)(p:Q'.length=Q.length)
 (g:∀e,aj XV 263 [.ptr k 0,.d (bf rest),.d (binds .sub u),aa next] (Q.set k (some (uB s S.st))++e)=some (.d (.tup []),Q'++e)):
 aj XV 263 [.ptr k 0,.d (bf (⟨a,b⟩::rest)),.d (binds .sub u),aa next] Q=some (.d (.tup []),Q'):=by
 rw[tx h rest next l];obtain⟨z,I,H,hx,hy,bx,b'⟩:=h;have q:=q_len z;have j:=same_eq x y bx b';rw[hc]at j;have o:=g (cY u x y);obtain⟨J,xv,xk⟩:=x;obtain⟨F,yv,yk⟩:=y;generalize some (uB s S.st)=v at*
 have C:Q.length+1<Q.length+3:=by omega
 have D:k<Q.length+3:=by omega
 have t:∀e,(Q'++e).take Q.length=Q':=fun e=>by rw[<-p];simp
 simp only[cY,T.qaP,T.qbz,T.qav]at o;simp[mZ,eh,fQ,fU,fG,gK,iG,gJ,f5,fK,gQ,gA,fc,gY,gw,gp,gi,gR,g9,h_,iz,gG,gC,gE,gj,gO,iM,gq,iV,eu,cY,splice,j,o,q,C,D,t,p]
end
section
variable {s:aD} {u:aF} {S:US} {Q:az} {k:Nat} {a b x y:T}
theorem qv1(h:Eqs s u S Q k a b x y)(rest:bh)(next:Int)(Q':az)(o:rest.length<=1099511627776)(hc:(T.cmp x y==0)=false)(t:x.f= -1)(p:Q'.length=Q.length)
 (j:∀e,aj XV 267 [.ptr k 0,aa x.v,.d (y.enc .sub),.d (bf rest),.d (binds .sub u),aa next] (Q.set k (some (uB s S.st))++e)=some (.d (.tup []),Q'++e)):
 aj XV 263 [.ptr k 0,.d (bf (⟨a,b⟩::rest)),.d (binds .sub u),aa next] Q=some (.d (.tup []),Q'):=by
 rw[tx h rest next o];obtain⟨z,O,J,hx,hy,bx,b'⟩:=h;have F:=q_len z;have l:=same_eq x y bx b';rw[hc]at l;have q:=j (cY u x y);have g:=iN x;obtain⟨K,xv,xk⟩:=x;obtain⟨M,yv,yk⟩:=y;simp only[T.qaP]at t;subst t;generalize some (uB s S.st)=v at*
 have C:Q.length+1<Q.length+3:=by omega
 have D:k<Q.length+3:=by omega
 have I:Q.length+1+1<Q.length+3:=by omega
 have H:∀e,(Q'++e).take Q.length=Q':=fun e=>by rw[<-p];simp
 simp only[cY,T.qaP,T.qbz,T.qav,BEq.rfl]at q g;simp[mZ,eh,fQ,fU,fG,gK,iG,gJ,f5,fK,gQ,gA,fc,gY,gw,gp,gi,gR,g9,h_,iz,gG,gC,gE,gj,gO,iM,gq,iV,eu,cY,splice,l,g,q,F,C,D,I,H,p]
theorem TZ(h:Eqs s u S Q k a b x y)(rest:bh)(next:Int)(Q':az)(q:rest.length<=1099511627776)(hc:(T.cmp x y==0)=false)(C:x.f≠-1)(o:y.f= -1)(t:Q'.length=Q.length)
 (l:∀e,aj XV 267 [.ptr k 0,aa y.v,.d (x.enc .sub),.d (bf rest),.d (binds .sub u),aa next] (Q.set k (some (uB s S.st))++e)=some (.d (.tup []),Q'++e)):
 aj XV 263 [.ptr k 0,.d (bf (⟨a,b⟩::rest)),.d (binds .sub u),aa next] Q=some (.d (.tup []),Q'):=by
 rw[tx h rest next q];obtain⟨D,V,P,hx,hy,bx,b'⟩:=h;have K:=q_len D;have p:=same_eq x y bx b';rw[hc]at p;have z:=l (cY u x y);have g:=iN x;have j:=iN y;obtain⟨I,xv,xk⟩:=x;obtain⟨R,yv,yk⟩:=y;simp only[T.qaP]at C o;subst o;have J:(I== -1)=false:=by simpa using C
 generalize some (uB s S.st)=v at*
 have F:Q.length+1<Q.length+3:=by omega
 have H:k<Q.length+3:=by omega
 have O:Q.length+1+1<Q.length+3:=by omega
 have M:∀e,(Q'++e).take Q.length=Q':=fun e=>by rw[<-t];simp
 simp only[cY,T.qaP,T.qbz,T.qav,BEq.rfl,J]at z g j;simp[mZ,eh,fQ,fU,fG,gK,iG,gJ,f5,fK,gQ,gA,fc,gY,gw,gp,gi,gR,g9,h_,iz,gG,gC,gE,gj,gO,iM,gq,iV,eu,cY,splice,p,g,j,z,K,F,H,O,M,t]
theorem Xh(h:Eqs s u S Q k a b x y)(rest:bh)(next:Int)(J:rest.length<=1099511627776)(hs:SgOk s)(hc:(T.cmp x y==0)=false)(Z:x.f≠-1)(t:y.f≠-1)(p:x.f≠y.f\/br s x.f=false/\x.kids.length≠y.kids.length):
 aj XV 263 [.ptr k 0,.d (bf (⟨a,b⟩::rest)),.d (binds .sub u),aa next] Q=some (.d (.tup []),Q.set k (some (uB s S.st))):=by
 rw[tx h rest next J];obtain⟨hq,ho,hw,hx,hy,bx,b'⟩:=h;have q:=q_len hq;have o:=same_eq x y bx b';rw[hc]at o;have g:=iN x;have l:=iN y;have j:=xX s hs.len x.f;obtain⟨z,xv,xk⟩:=x;obtain⟨I,yv,yk⟩:=y;simp only[T.qaP,T.qav]at Z t p j;have hb:(z== -1)=false:=by simpa using Z
 have F:(I== -1)=false:=by simpa using t
 rw[mR];have O:Q.length+1<Q.length+3:=by omega
 have P:k<Q.length+3:=by omega
 have Y:Q.length+1+1<Q.length+3:=by omega
 have X:¬(Q.length+3<=k):=by omega
 have R:¬(Q.length+3<=Q.length+1):=by omega
 have M:¬(Q.length+3<=Q.length+1+1):=by omega
 have V:∀v e,(Q.set k v++e).take Q.length=Q.set k v:=fun v e=>by rw[List.take_left' (by simp)]
 simp only[T.qaP,T.qbz,T.qav,hb,F]at g l
 by_cases H:z=I
 ·obtain⟨K,h1⟩:br s z=false/\xk.length≠yk.length:=by
   rcases p with p|p
   ·exact absurd H p
   ·exact p
  subst H;rw[K]at j;have C:((xk.length:Int) !=yk.length)=true:=by simp;omega
  simp[mZ,eh,fQ,fU,fG,gK,iG,gJ,f5,fK,gQ,gA,fc,gY,gw,gp,gi,gR,g9,h_,iz,gG,gC,gE,gj,gO,iM,gq,iV,eu,cY,splice,o,g,l,q,O,P,Y,X,R,M,V,j,C,jk q,ml q]
 ·have D:(z !=I)=true:=by simpa using H
  simp[mZ,eh,fQ,fU,fG,gK,iG,gJ,f5,fK,gQ,gA,fc,gY,gw,gp,gi,gR,g9,h_,iz,gG,gC,gE,gj,gO,iM,gq,iV,eu,cY,splice,o,g,l,q,O,P,Y,X,R,M,V,D,jk q,ml q]
theorem Qs(h:Eqs s u S Q k a b x y)(rest:bh)(next:Int)(Q':az)(C:rest.length<=1099511627776)(Z:SgOk s)(hc:(T.cmp x y==0)=false)(H:x.f≠-1)(D:x.f=y.f)(t:br s x.f=true)(F:Q'.length=Q.length)
 (o:∀e,aj XV 268 [.ptr k 0,.d (x.enc .sub),.d (y.enc .sub),.d (bf rest),.d (binds .sub u),aa next] (Q.set k (some (uB s S.st))++e)=some (.d (.tup []),Q'++e)):
 aj XV 263 [.ptr k 0,.d (bf (⟨a,b⟩::rest)),.d (binds .sub u),aa next] Q=some (.d (.tup []),Q'):=by
 rw[tx h rest next C];obtain⟨I,ho,hw,hx,hy,bx,b'⟩:=h;have q:=q_len I;have p:=same_eq x y bx b';rw[hc]at p;have z:=o (cY u x y);have j:=iN x;have l:=iN y;have g:=xX s Z.len x.f;rw[t]at g;obtain⟨P,xv,xk⟩:=x;obtain⟨yf,yv,yk⟩:=y;simp only[T.qaP]at H D g;subst D;have R:(P== -1)=false:=by simpa using H
 rw[mR]at z⊢
 have K:Q.length+1<Q.length+3:=by omega
 have M:k<Q.length+3:=by omega
 have Y:Q.length+1+1<Q.length+3:=by omega
 have X:¬(Q.length+3<=k):=by omega
 have O:¬(Q.length+3<=Q.length+1):=by omega
 have J:¬(Q.length+3<=Q.length+1+1):=by omega
 have V:∀e,(Q'++e).take Q.length=Q':=fun e=>by rw[<-F];simp
 simp only[cY,T.qaP,T.qbz,T.qav,R]at z j l;simp[mZ,eh,fQ,fU,fG,gK,iG,gJ,f5,fK,gQ,gA,fc,gY,gw,gp,gi,gR,g9,h_,iz,gG,gC,gE,gj,gO,iM,gq,iV,eu,cY,splice,p,j,l,z,q,K,M,Y,X,O,J,V,F,g,jk q,ml q]
end
def bE(xk yk:ah):Nat->bh
 |0=>[]
 |i+1=>bE xk yk i++[⟨ai xk i,ai yk i⟩]
theorem o_(xk yk:ah):∀n,(bE xk yk n).length=n
 |0=>rfl
 |n+1=>by simp[bE,o_ xk yk n]
section
variable {s:aD} {u:aF} {S:US} {Q:az} {k:Nat} {a b x y:T}
theorem qBN(v:Option aG)(rest:bh)(next:Int)(O:k<Q.length)(hl:x.kids.length<=1099511627776)(I:x.kids.length=y.kids.length):
 bq XV (XV.lin 263) (Q.length+3) [0,3,6,8,9,10,11,87,88] vJ ⟨eu k Q.length next rest++[(11,.d (.sl U [])),(87,aa x.kids.length),(88,aa 0)],Q.set k v++cY u x y⟩=
  some (.exit 1,⟨eu k Q.length next rest++[(11,.d (.sl U ((bE x.kids y.kids x.kids.length).map (Eqn.enc .sub .sub)))),(87,aa x.kids.length),(88,aa x.kids.length),(89,au false)],Q.set k v++cY u x y⟩):=by
 have F:(Q.set k v++cY u x y).length=Q.length+3:=by simp[cY]
 have t:(Q.set k v++cY u x y).take (Q.length+3)=Q.set k v++cY u x y:=dD (by omega);have g:k<Q.length+3:=by omega
 have l:Q.length+1<Q.length+3:=by omega
 have j:Q.length+1+1<Q.length+3:=by omega
 have h:=dW (X:=XV) (T:=XV.lin 263) (L:=Q.length+3) (live:=[0,3,6,8,9,10,11,87,88]) (b:=vJ) (n:=x.kids.length) (γ:=Unit) (R:=fun _=>(.ret,⟨[],[]⟩)) (step:=fun _ _=> .inl ())
  (st:=fun(_:Unit) i=>⟨eu k Q.length next rest++[(11,.d (.sl U ((bE x.kids y.kids i).map (Eqn.enc .sub .sub)))),(87,aa x.kids.length),(88,aa i)],Q.set k v++cY u x y⟩) 1 89 (fun _ _=>True) ()
  (fun _ _=>by simp[vJ,fQ,fU,fG,gK,iG,gJ,f5,fK,gQ,gA,fc,gY,gw,gp,gi,gR,g9,h_,iz,gG,gC,gE,gj,gO,iM,gq,iV,eu])
  (fun _ i hi _=>by
   have o:=aV (n:=i) (by omega);have e:i<y.kids.length:=by omega
   have C:=o_ x.kids y.kids i;have z:=Cf (bE x.kids y.kids i) .sub .sub ⟨ai x.kids i,ai y.kids i⟩ (by omega);have M:bE x.kids y.kids (i+1)=bE x.kids y.kids i++[⟨ai x.kids i,ai y.kids i⟩]:=rfl;have D:=aZ hi;have H:=aZ e;refine⟨⟨⟨eu k Q.length next rest++[(11,.d (.sl U ((bE x.kids y.kids (i+1)).map (Eqn.enc .sub .sub)))),(87,aa x.kids.length),(88,aa (i+1:Nat))],Q.set k v++cY u x y⟩,?_,by simp[eu,aA,aB,t,F,g,l,j]⟩,fun _ _=>trivial⟩;rw[M];generalize (bE x.kids y.kids i++[Eqn.mk (ai x.kids i) (ai y.kids i)]).map (Eqn.enc .sub .sub)=L2 at*
   generalize (bE x.kids y.kids i).map (Eqn.enc .sub .sub)=L1 at*
   generalize ai x.kids i=p at*
   generalize ai y.kids i=q at*
   obtain⟨xf,xv,xk⟩:=x;obtain⟨P,yv,yk⟩:=y;obtain⟨Y,pv,V⟩:=p;obtain⟨qf,Z,qk⟩:=q;simp only[T.qav,Eqn.enc,T.qaP,T.qbz]at D H hi e z⊢
   have K:¬(Q.length+3<=Q.length+1):=by omega
   have J:¬(Q.length+3<=Q.length+1+1):=by omega
   simp[vJ,fQ,fU,fG,gK,iG,gJ,f5,fK,gQ,gA,fc,gY,gw,gp,gi,gR,g9,h_,iz,gG,gC,gE,gj,gO,iM,gq,iV,eu,cY,hi,e,o,cut,D,H,z,g,l,j,K,J,splice])
  trivial (by simp[eu,aA,aB,t,F,g,l,j,bE])
 rw[dB]at h;exact h
theorem qvY(h:Eqs s u S Q k a b x y)(rest:bh)(next:Int)(Q':az)(h1:rest.length<=1000000000)(hs:SgOk s)(hc:(T.cmp x y==0)=false)(P:x.f≠-1)(H:x.f=y.f)(D:br s x.f=false)(j:x.kids.length=y.kids.length)(hl:x.kids.length<=1000000000)(K:Q'.length=Q.length)
 (z:∀e,aj XV 263 [.ptr k 0,.d (bf (bE x.kids y.kids x.kids.length++rest)),.d (binds .sub u),aa next] (Q.set k (some (uB s S.st))++e)=some (.d (.tup []),Q'++e)):
 aj XV 263 [.ptr k 0,.d (bf (⟨a,b⟩::rest)),.d (binds .sub u),aa next] Q=some (.d (.tup []),Q'):=by
 rw[tx h rest next (by omega)];obtain⟨R,ho,hw,hx,hy,bx,b'⟩:=h;have q:=q_len R;have C:=same_eq x y bx b';rw[hc]at C;have F:=z (cY u x y);have o:=iN x;have t:=iN y;have l:=xX s hs.len x.f;rw[D]at l;have g:=qBN (u:=u) (x:=x) (y:=y) (some (uB s S.st)) rest next q (by omega) j;have Z:=o_ x.kids y.kids x.kids.length;have M:=GD (bE x.kids y.kids x.kids.length) rest .sub .sub (by omega);obtain⟨Y,xv,xk⟩:=x;obtain⟨yf,yv,yk⟩:=y;simp only[T.qaP,T.qav]at P H l j;subst H;have hb:(Y== -1)=false:=by simpa using P
 rw[mR]at F g⊢
 have I:Q.length+1<Q.length+3:=by omega
 have J:k<Q.length+3:=by omega
 have O:Q.length+1+1<Q.length+3:=by omega
 have m4:¬(Q.length+3<=k):=by omega
 have X:¬(Q.length+3<=Q.length+1):=by omega
 have V:¬(Q.length+3<=Q.length+1+1):=by omega
 have hT:∀e,(Q'++e).take Q.length=Q':=fun e=>by rw[<-K];simp
 have m7:¬(Q.length+3<=Q.length):=by omega
 have p:((xk.length:Int) !=yk.length)=false:=by rw[j];simp
 simp only[cY,eu,T.qaP,T.qbz,T.qav,hb,qUL,cL,bf,c9,co]at F o t g M;simp[mZ,eh,fQ,fU,fG,gK,iG,gJ,f5,fK,gQ,gA,fc,gY,gw,gp,gi,gR,g9,h_,iz,gG,gC,gE,gj,gO,iM,gq,iV,eu,cY,splice,C,o,t,q,I,J,O,m4,X,V,l,p,jk q,ml q];rw[g];simp[eh,fQ,fU,fG,gK,iG,gJ,f5,fK,gQ,gA,fc,gY,gw,gp,gi,gR,g9,h_,iz,gG,gC,gE,gj,gO,iM,gq,iV,q,I,J,O,m7,M,F,hT,K,splice]
end
def oU(rec:bh->aF->Int->ei)(s:aD)(v:Int)(t:T)(rest:bh)(u:aF)(next:Int):ei:=if 0<cnt t v then []else if ez s (bB s u v t)then rec rest (bB s u v t) next else [.bad]
def tS(rec:bh->aF->Int->ei)(s:aD)(x y:T)(rest:bh)(u:aF)(next:Int):ei:=
 if(T.cmp x y==0)=true then rec rest u next
 else if x.f= -1 then oU rec s x.v y rest u next
 else if y.f= -1 then oU rec s y.v x rest u next
 else if x.f≠y.f then []
 else if br s x.f=true then uA rec s x.f x.kids y.kids rest u next
 else rec (bE x.kids y.kids x.kids.length++rest) u next
def cN(s:aD):Nat->bh->aF->Int->ei
 |0=>fun _ _ _=>[]
 |n+1=>fun l u next=>match l with
  | []=>[.found u]
  |e::rest=> .step::tS (cN s n) s (aT s u e.a) (aT s u e.b) rest u next
structure Safe(s:aD)(G:Nat->bh->aF->Int->Prop):Prop where
 len:∀{n l u next},G n l u next->l.length<=10000000/\small u/\u.length<=1000/\0<=next/\next<=1000
 a:∀{n a b rest u next},G n (⟨a,b⟩::rest) u next->a.inner<=1099511627776/\(bN u a).inner<=1099511627776/\(aT s u a).inner<=1000000000
 b:∀{n a b rest u next},G n (⟨a,b⟩::rest) u next->b.inner<=1099511627776/\(bN u b).inner<=1099511627776/\(aT s u b).inner<=1000000000
 arity:∀{n a b rest u next},G n (⟨a,b⟩::rest) u next->(aT s u a).f≠-1->(aT s u a).f=(aT s u b).f->br s (aT s u a).f=false->(aT s u a).kids.length=(aT s u b).kids.length
 same:∀{n a b rest u next},G (n+1) (⟨a,b⟩::rest) u next->G n rest u next
 bindx:∀{n a b rest u next},G (n+1) (⟨a,b⟩::rest) u next->(aT s u a).f= -1->¬0<cnt (aT s u b) (aT s u a).v->SubFit s u (aT s u a).v (aT s u b)/\(ez s (bB s u (aT s u a).v (aT s u b))=true->G n rest (bB s u (aT s u a).v (aT s u b)) next)
 bindy:∀{n a b rest u next},G (n+1) (⟨a,b⟩::rest) u next->(aT s u a).f≠-1->(aT s u b).f= -1->¬0<cnt (aT s u a) (aT s u b).v->SubFit s u (aT s u b).v (aT s u a)/\(ez s (bB s u (aT s u b).v (aT s u a))=true->G n rest (bB s u (aT s u b).v (aT s u a)) next)
 pairs:∀{n a b rest u next},G (n+1) (⟨a,b⟩::rest) u next->(aT s u a).f≠-1->(aT s u a).f=(aT s u b).f->br s (aT s u a).f=false->G n (bE (aT s u a).kids (aT s u b).kids (aT s u a).kids.length++rest) u next
 choose:∀{n a b rest u next} (all:ah) (ways:List ax) (m:Nat),G (n+1) (⟨a,b⟩::rest) u next->(aT s u a).f=(aT s u b).f->br s (aT s u a).f=true->
  lr (bz (bW (aT s u a).kids (aT s u b).kids).1).2 (bz (bW (aT s u a).kids (aT s u b).kids).2).2=true->all=(bz (bW (aT s u a).kids (aT s u b).kids).1).1++(bz (bW (aT s u a).kids (aT s u b).kids).2).1->ways=bL (bz (bW (aT s u a).kids (aT s u b).kids).1).2 (bz (bW (aT s u a).kids (aT s u b).kids).2).2->
  gx all ways m=true->next+(bc ways (m+1) ways.length).length-1<=99->G n (db s (aT s u a).f all (bc ways (m+1) ways.length) next all.length++rest) u (next+(bc ways (m+1) ways.length).length)
structure US.Ok(S:US):Prop where
 t:∀w,w∈S.told->small w
 l:S.told.length<=61
 o:S.over=false->S.told.length<=60/\S.work<=400
theorem US.qA3(S:US)(e:UEv):S.work<=(S.ev e).work/\(∀w,w∈(S.ev e).told->w∈S.told\/e= .found w)/\(S.over=true->(S.ev e).over=true):=by
 unfold US.ev;split
 ·rename_i h;exact⟨bI _,fun w h=> .inl h,fun _=>h⟩
 ·rename_i h
  cases e with
  |step=>exact⟨b7 _,fun w h=> .inl h,fun h'=>absurd h' h⟩
  |bad=>exact⟨bI _,fun w h=> .inl h,fun _=>rfl⟩
  |found u=>
   refine⟨bI _,fun w d=> ?_,fun h'=>absurd h' h⟩;simp only at d;split at d
   ·exact .inl d
   ·rcases bw.1 d with d|d
    ·exact .inl d
    ·rw[fS.1 d];exact .inr rfl
theorem US.qnV:∀(es:ei) (S:US),S.work<=(S.run es).work/\(∀w,w∈(S.run es).told->w∈S.told\/UEv.found w∈es)/\(S.over=true->(S.run es).over=true)
 | [],S=>⟨bI _,fun w h=> .inl h,fun h=>h⟩
 |e::es,S=>by
  obtain⟨j,p,l⟩:=US.qA3 S e;obtain⟨d,g,q⟩:=US.qnV es (S.ev e);rw[US.qgO];refine⟨eG j d,fun w o=> ?_,fun h=>q (l h)⟩;rcases g w o with h|h
  ·rcases p w h with h|h
   ·exact .inl h
   ·exact .inr (by simp[h])
  ·exact .inr (by simp[h])
theorem US.Ok.ev{S:US}(h:S.Ok)(e:UEv)(q:∀w,e= .found w->small w):(S.ev e).Ok:=by
 refine⟨fun w p=> ?_,?_,?_⟩
 ·rcases(US.qA3 S e).2.1 w p with g|g
  ·exact h.t w g
  ·exact q w g
 ·unfold US.ev
  split
  ·exact h.l
  ·rename_i j
   have:=(h.o (by simpa using j)).1;cases e with
   |step=>exact h.l
   |bad=>exact h.l
   |found u=>simp only;split<;>simp<;>omega
 ·unfold US.ev
  split
  ·exact h.o
  ·rename_i j
   obtain⟨g,z⟩:=h.o (by simpa using j);cases e with
   |step=>intro d;simp at d;exact⟨g,by simp only;omega⟩
   |bad=>intro d;simp[US.bad]at d
   |found u=>intro d;simp at d;exact⟨by simp only;split at d<;>simp_all,z⟩
theorem US.Ok.run:∀{es:ei} {S:US},S.Ok->(∀w,UEv.found w∈es->small w)->(S.run es).Ok
 | [],S,h,_=>h
 |e::es,S,h,g=>by rw[US.qgO];exact US.Ok.run (h.ev e fun w d=>g w (by simp[d])) (fun w d=>g w (by simp[d]))
variable{G:Nat->bh->aF->Int->Prop}
theorem Oy(j:Safe s G):∀(n:Nat) (l:bh) (u:aF) (next:Int),G n l u next->∀w,UEv.found w∈cN s n l u next->∃m nx,G m [] w nx
 |0,l,u,next,h,w,d=>by simp[cN]at d
 |n+1,[],u,next,h,w,d=>by simp[cN]at d;subst d;exact⟨_,_,h⟩
 |n+1,⟨a,b⟩::rest,u,next,h,w,d=>by
  have o:=Oy j n;simp only[cN,cE,reduceCtorEq,false_or]at d;unfold tS at d;split at d
  ·exact o _ _ _ (j.same h) w d
  ·split at d
   ·rename_i t
    unfold oU at d;split at d
    ·simp at d
    ·rename_i hc
     split at d
     ·rename_i p
      exact o _ _ _ ((j.bindx h t hc).2 p) w d
     ·simp at d
   ·rename_i t
    split at d
    ·rename_i C
     unfold oU at d;split at d
     ·simp at d
     ·rename_i hc
      split at d
      ·rename_i p
       exact o _ _ _ ((j.bindy h t C hc).2 p) w d
      ·simp at d
    ·split at d
     ·simp at d
     ·rename_i q
      have q:(aT s u a).f=(aT s u b).f:=by simpa using q
      split at d
      ·rename_i e
       unfold uA at d;split at d
       ·simp at d
       ·split at d
        ·rename_i z
         obtain⟨m,_,g⟩:=tX.1 d;unfold eW at g;split at g
         ·rename_i p
          split at g
          ·simp at g
          ·rename_i D
           exact o _ _ _ (j.choose _ _ m h q e z rfl rfl p (by omega)) w g
         ·simp at g
        ·simp at d
      ·rename_i e
       exact o _ _ _ (j.pairs h t q (by simpa using e)) w d
theorem ML(d:Safe s G)(n:Nat)(l:bh)(u:aF)(next:Int)(h:G n l u next)(w:aF)(e:UEv.found w∈cN s n l u next):small w:=by obtain⟨m,nx,h⟩:=Oy d n l u next h w e;exact(d.len h).2.1
end Go.Proofs.YtpcoohnjllclnaaGreat.VS

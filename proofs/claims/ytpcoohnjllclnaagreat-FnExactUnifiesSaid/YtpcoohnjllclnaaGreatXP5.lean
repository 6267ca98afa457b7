/- Contracts of the program's functions on the evaluator without names, and plain lemmas: part 5. -/
import Derived.Test.YtpcoohnjllclnaaGreatXP4
set_option linter.unusedSimpArgs false
set_option linter.unusedVariables false
namespace Go.Proofs.YtpcoohnjllclnaaGreat.VS
theorem qEB(n m k:Nat)(rows acc:List ax)(t:rows.length<=1000)(q:acc.length<=1000000)(g:∀i,i<rows.length->(aP rows i).length<=1000):
 bo XV (XV.lin 220) 0 [0,1,5,6,7,8] u5 ⟨[(0,aa n),(1,aa m),(5,.d (aG U acc)),(6,aa k),(7,.d (aG .sub rows)),(8,aa 0)],[]⟩=
  some (.exit 2,⟨[(0,aa n),(1,aa m),(5,.d (aG U (acc++rows.map fun r=>(k:Int)::r))),(6,aa k),(7,.d (aG .sub rows)),(8,aa rows.length),(28,au false)],[]⟩):=by
 have h:=eu (X:=XV) (T:=XV.lin 220) (L:=0) (live:=[0,1,5,6,7,8]) (b:=u5) (n:=rows.length) (γ:=Unit) (st:=fun(A:List ax) i=>⟨[(0,aa n),(1,aa m),(5,.d (aG U A)),(6,aa k),(7,.d (aG .sub rows)),(8,aa i)],[]⟩) (step:=tC k rows)
  (F:=fun A=>(.exit 2,⟨[(0,aa n),(1,aa m),(5,.d (aG U A)),(6,aa k),(7,.d (aG .sub rows)),(8,aa rows.length),(28,au false)],[]⟩)) (R:=fun _=>(.ret,⟨[],[]⟩))
  (fun A i=>A.length<=1000000+i)
  (fun A _=>⟨by simp,by simp[u5]⟩)
  (fun A i hi j=>by
   have p:=aV (n:=i) (by omega);have l:=Kx k (aP rows i) .sub (by have:=g i hi;omega);have o:bU 1 24 (aG U A) (.sl U [.sl U (.int .i64 (k:Int)::(aP rows i).map (.int .i64))])=some (aG U (A++[(k:Int)::aP rows i])):=by have:=rR A U U U ((k:Int)::aP rows i) (by omega);rw[show aG U (A++[(k:Int)::aP rows i])= .sl U (A.map (ints U)++[ints U ((k:Int)::aP rows i)])by simp[aG]];exact this
   refine⟨⟨_,by simp[u5,hi,p,cut,cP hi,l,o];rfl,by simp[aA,aB]⟩,fun a' h=>by simp[tC]at h;subst h;simp;omega⟩)
  rows.length acc 0 ⟨[(0,aa n),(1,aa m),(5,.d (aG U acc)),(6,aa k),(7,.d (aG .sub rows)),(8,aa 0)],[]⟩ (by omega) (by omega) (by simp[aA,aB])
 have e:=Ib k rows rows.length acc (bN _);rw[m_]at e;rw[e]at h;simpa using h
theorem Fs(n m i:Nat)(hi:i<(ways n m).length):(aP (ways n m) i).length=n:=by rw[<-cP hi];exact mD n m _ (gY hi)
theorem H2:∀(n m:Nat),n<=5->m<=4->ak XV 224 [aa n,aa m] []=some (.d (aG U (ways n m)),[])
 |0,m,_,_=>by rw[aL 224 rj rfl];simp[rj,ways]
 |n+1,m,I,z=>by
  rw[aL 224 rj rfl];have h:=eu (X:=XV) (T:=XV.lin 224) (L:=0) (live:=[0,1,5,6]) (b:=CZ) (n:=m+1) (γ:=Unit) (st:=fun(A:List ax) k=>⟨[(0,aa (n+1:Nat)),(1,aa m),(5,.d (aG U A)),(6,aa k)],[]⟩) (step:=tD n m)
   (F:=fun A=>(.exit 0,⟨[(0,aa (n+1:Nat)),(1,aa m),(5,.d (aG U A)),(6,aa (m+1:Nat)),(16,au false)],[]⟩)) (R:=fun _=>(.ret,⟨[],[]⟩))
   (fun A k=>A=ei n m k)
   (fun A _=>⟨by simp,by
    have:¬((m:Int)+1<=m):=by omega
    simp[CZ,this]⟩)
   (fun A k M e=>by
    subst e;have t:=aV (n:=k) (by omega);have j:(k:Int)<=m:=by omega
    have g:IntKind.i64.wrap ((m:Int)-k)=((m-k:Nat):Int):=by rw[wrap_i64 (by omega) (by omega)];omega
    have p:IntKind.i64.wrap (n:Int)=n:=wrap_i64 (by omega) (by omega);have q:=H2 n (m-k) (by omega) (by omega);have J:=LK n m k (by omega) z (by omega);have K:=kG n (m-k) (by omega) (by omega);have o:=qEP (n+1) m k (ways n (m-k)) (ei n m k) (by omega) (by omega) (fun i hi=>by rw[Fs n _ i hi];omega);simp only[JL]at o
    push_cast at o
    refine⟨⟨_,by simp[CZ,t,g,p,j,q,o];rfl,by simp[aA,aB]⟩,fun a' h=>by simp[tD]at h;subst h;rw[yD]⟩)
   (m+1) (ei n m 0) 0 ⟨[(0,aa (n+1:Nat)),(1,aa m),(5,.d (aG U (ei n m 0))),(6,aa 0)],[]⟩ (by omega) rfl (by simp[aA,aB])
  have H:=FB n m (m+1) 0;rw[H]at h;simp only[JL]at h;have C:(((n:Int)+1)==0)=false:=by simp;omega
  have D:ei n m 0=[]:=rfl;rw[D]at h;have l:aG U ([]:List ax)=DV.sl U []:=rfl;rw[l]at h;simp at h;simp[rj,C];rw[h];simp[ways,ei]
theorem F5:∀(n m:Nat),n<=5->m<=4->ak XV 220 [aa n,aa m] []=some (.d (aG U (ways n m)),[])
 |0,m,_,_=>by rw[aL 220 tc rfl];simp[tc,ways]
 |n+1,m,I,z=>by
  rw[aL 220 tc rfl];have h:=eu (X:=XV) (T:=XV.lin 220) (L:=0) (live:=[0,1,5,6]) (b:=Cq) (n:=m+1) (γ:=Unit) (st:=fun(A:List ax) k=>⟨[(0,aa (n+1:Nat)),(1,aa m),(5,.d (aG U A)),(6,aa k)],[]⟩) (step:=tD n m)
   (F:=fun A=>(.exit 0,⟨[(0,aa (n+1:Nat)),(1,aa m),(5,.d (aG U A)),(6,aa (m+1:Nat)),(16,au false)],[]⟩)) (R:=fun _=>(.ret,⟨[],[]⟩))
   (fun A k=>A=ei n m k)
   (fun A _=>⟨by simp,by
    have:¬((m:Int)+1<=m):=by omega
    simp[Cq,this]⟩)
   (fun A k M e=>by
    subst e;have t:=aV (n:=k) (by omega);have j:(k:Int)<=m:=by omega
    have g:IntKind.i64.wrap ((m:Int)-k)=((m-k:Nat):Int):=by rw[wrap_i64 (by omega) (by omega)];omega
    have p:IntKind.i64.wrap (n:Int)=n:=wrap_i64 (by omega) (by omega);have q:=F5 n (m-k) (by omega) (by omega);have J:=LK n m k (by omega) z (by omega);have K:=kG n (m-k) (by omega) (by omega);have o:=qEB (n+1) m k (ways n (m-k)) (ei n m k) (by omega) (by omega) (fun i hi=>by rw[Fs n _ i hi];omega);simp only[J6]at o
    push_cast at o
    refine⟨⟨_,by simp[Cq,t,g,p,j,q,o];rfl,by simp[aA,aB]⟩,fun a' h=>by simp[tD]at h;subst h;rw[yD]⟩)
   (m+1) (ei n m 0) 0 ⟨[(0,aa (n+1:Nat)),(1,aa m),(5,.d (aG U (ei n m 0))),(6,aa 0)],[]⟩ (by omega) rfl (by simp[aA,aB])
  have H:=FB n m (m+1) 0;rw[H]at h;simp only[J6]at h;have C:(((n:Int)+1)==0)=false:=by simp;omega
  have D:ei n m 0=[]:=rfl;rw[D]at h;have l:aG U ([]:List ax)=DV.sl U []:=rfl;rw[l]at h;simp at h;simp[tc,C];rw[h];simp[ways,ei]
def re(x y:ax)(b:Bool)(i:Nat):Bool⊕Unit:=if aE y i<aE x i then .inr ()else .inl (b||decide (aE x i<aE y i))
def o7(x y:ax):Bool:=match runN (re x y) x.length false 0 with| .inl b=>b| .inr _=>false
theorem TX(x y:ax)(hx:x.length<=1099511627776)(o:x.length=y.length):ak XV 51 [.d (is x),.d (is y)] []=some (au (o7 x y),[]):=by
 rw[aL 51 v51 rfl];have h:=bE (X:=XV) (T:=XV.lin 51) (L:=0) (live:=[0,1,5,13,14]) (b:=rO) (n:=x.length) (γ:=Unit) (st:=fun(b:Bool) i=>⟨[(0,.d (is x)),(1,.d (is y)),(5,au b),(13,aa x.length),(14,aa i)],[]⟩) (step:=re x y)
  (F:=fun b=>(.exit 0,⟨[(0,.d (is x)),(1,.d (is y)),(5,au b),(13,aa x.length),(14,aa x.length),(15,au false)],[]⟩)) (R:=fun _=>(.ret,⟨[(4,au false)],[]⟩))
  (fun _=>⟨by simp,by simp[rO]⟩)
  (fun b i hi=>by
   have l:=aV (n:=i) (by omega);have e:i<y.length:=by omega
   unfold re
   by_cases g:aE y i<aE x i
   ·simp only[g,if_true]
    exact⟨by simp,by simp[rO,Gz,hi,e,cut,bP hi,bP e,g]⟩
   ·simp only[g,if_false]
    cases b with
    |true=>exact⟨_,by simp[rO,Gz,LF,hi,e,l,cut,bP hi,bP e,g];rfl,by simp[aA,aB]⟩
    |false=>exact⟨_,by simp[rO,Gz,LF,hi,e,l,cut,bP hi,bP e,g];rfl,by simp[aA,aB]⟩)
  x.length false 0 ⟨[(0,.d (is x)),(1,.d (is y)),(5,au false),(13,aa x.length),(14,aa 0)],[]⟩ (by omega) (by simp[aA,aB])
 simp only[Sw]at h;unfold o7;have j:((x.length:Int) !=y.length)=false:=by simp;omega
 simp[v51,j];rw[h];cases runN (re x y) x.length false 0<;>simp
theorem Zk(x y:ax)(hx:x.length<=1099511627776)(o:x.length=y.length):ak XV 50 [.d (is x),.d (is y)] []=some (au (o7 x y),[]):=by
 rw[aL 50 B4 rfl];have h:=bE (X:=XV) (T:=XV.lin 50) (L:=0) (live:=[0,1,5,6]) (b:=sM) (n:=x.length) (γ:=Unit) (st:=fun(b:Bool) i=>⟨[(0,.d (is x)),(1,.d (is y)),(5,au b),(6,aa i)],[]⟩) (step:=re x y)
  (F:=fun b=>(.exit 0,⟨[(0,.d (is x)),(1,.d (is y)),(5,au b),(6,aa x.length),(16,au false)],[]⟩)) (R:=fun _=>(.ret,⟨[(4,au false)],[]⟩))
  (fun _=>⟨by simp,by simp[sM]⟩)
  (fun b i hi=>by
   have l:=aV (n:=i) (by omega);have e:i<y.length:=by omega
   unfold re
   by_cases g:aE y i<aE x i
   ·simp only[g,if_true]
    exact⟨by simp,by simp[sM,Ed,hi,e,cut,bP hi,bP e,g]⟩
   ·simp only[g,if_false]
    cases b with
    |true=>exact⟨_,by simp[sM,Ed,Ni,hi,e,l,cut,bP hi,bP e,g];rfl,by simp[aA,aB]⟩
    |false=>exact⟨_,by simp[sM,Ed,Ni,hi,e,l,cut,bP hi,bP e,g];rfl,by simp[aA,aB]⟩)
  x.length false 0 ⟨[(0,.d (is x)),(1,.d (is y)),(5,au false),(6,aa 0)],[]⟩ (by omega) (by simp[aA,aB])
 simp only[Zb]at h;unfold o7;have j:((x.length:Int)==y.length)=true:=by simp;omega
 simp[B4];rw[h];cases hq:runN (re x y) x.length false 0 with
 |inr u=>simp
 |inl b=>cases b<;>simp[j]
theorem qwZ(g:Tag)(y z:ax)(hy:y.length<=1099511627776)(e:y.length=z.length):ak XV 226 [.d (is y),.ptr 0 0] [some [.d (.sl g (z.map (.int .i64)))]]=some (au (o7 y z),[some [.d (.sl g (z.map (.int .i64)))]]):=by rw[aL 226 Av rfl];have h:=TX y z hy e;simp[Av,h,aW]
def iW(rows:List ax)(z:ax)(i:Nat):Bool:=o7 (aP rows i) z
def pa(rows:List ax)(z:ax):Bool:=(aR (iW rows z) rows.length 0).isNone
theorem Xb(g:Tag)(rows:List ax)(z:ax)(p:rows.length<=1099511627776)(o:z.length<=1099511627776)(e:∀i,i<rows.length->(aP rows i).length=z.length):
 ak XV 228 [.d (aG .sub rows),.fn 226 [.ptr 0 0]] [some [.d (.sl g (z.map (.int .i64)))]]=some (aa (bC (aR (iW rows z) rows.length 0)),[some [.d (.sl g (z.map (.int .i64)))]]):=by
 rw[aL 228 yJ rfl];have h:=bE (X:=XV) (T:=XV.lin 228) (L:=1) (live:=[0,1,7,8]) (b:=wR) (n:=rows.length) (γ:=Nat) (st:=fun(_:Unit) i=>⟨[(0,.d (aG .sub rows)),(1,.fn 226 [.ptr 0 0]),(7,aa rows.length),(8,aa i)],[some [.d (.sl g (z.map (.int .i64)))]]⟩) (step:=bG (iW rows z))
  (F:=fun _=>(.exit 0,⟨[(0,.d (aG .sub rows)),(1,.fn 226 [.ptr 0 0]),(7,aa rows.length),(8,aa rows.length),(9,au false)],[some [.d (.sl g (z.map (.int .i64)))]]⟩)) (R:=fun(j:Nat)=>(.ret,⟨[(4,aa j)],[some [.d (.sl g (z.map (.int .i64)))]]⟩))
  (fun _=>⟨by simp,by simp[wR]⟩)
  (fun _ i hi=>by
   have l:=aV (n:=i) (by omega);have hc:=qwZ g (aP rows i) z (by rw[e i hi];omega) (e i hi);unfold bG iW;cases hq:o7 (aP rows i) z with
   |true=>rw[hq]at hc;simp only[if_true];exact⟨by simp,by simp[wR,hi,cut,cP hi,hc]⟩
   |false=>rw[hq]at hc;exact⟨_,by simp[wR,hi,l,cut,cP hi,hc];rfl,by simp[aA,aB]⟩)
  rows.length () 0 ⟨[(0,.d (aG .sub rows)),(1,.fn 226 [.ptr 0 0]),(7,aa rows.length),(8,aa 0)],[some [.d (.sl g (z.map (.int .i64)))]]⟩ (by omega) (by simp[aA,aB])
 rw[cT]at h;simp only[qUD]at h;simp[yJ];rw[h];cases hq:aR (iW rows z) rows.length 0<;>simp[bC]
theorem TC(g:Tag)(rows:List ax)(z:ax)(o:rows.length<=1099511627776)(l:z.length<=1099511627776)(e:∀i,i<rows.length->(aP rows i).length=z.length):
 ak XV 227 [.d (aG .sub rows),.fn 226 [.ptr 0 0]] [some [.d (.sl g (z.map (.int .i64)))]]=some (au (!pa rows z),[some [.d (.sl g (z.map (.int .i64)))]]):=by
 rw[aL 227 xK rfl];have h:=Xb g rows z o l e;unfold pa;cases hq:aR (iW rows z) rows.length 0 with
 |none=>rw[hq]at h;simp[xK,h,bC]
 |some j=>rw[hq]at h;simp[xK,h,bC]
def iz(rows:List ax)(k:Nat):List ax:=(rows.take k).filter (pa rows)
theorem qrk(rows:List ax)(k:Nat)(d:k<rows.length):iz rows (k+1)=iz rows k++(if pa rows (aP rows k)then [aP rows k]else []):=by
 unfold iz;rw[ov,List.filter_append]
 congr 1
 rw[ft d,cP d];simp[List.filter];split<;>simp_all
def ry(rows acc:List ax)(k:Nat):List ax⊕Unit:= .inl (acc++(if pa rows (aP rows k)then [aP rows k]else []))
theorem GM(rows:List ax):∀(j k:Nat),k+j<=rows.length->runN (ry rows) j (iz rows k) k= .inl (iz rows (k+j))
 |0,k,_=>rfl
 |j+1,k,h=>by
  simp only[runN,ry];rw[<-qrk rows k (by omega),GM rows j (k+1) (by omega)]
  congr 2;omega
def lq(rows:List ax)(i:Nat):aw:=(rows.take i).map (ints .sub)++(rows.drop i).map (ints U)
theorem X3(rows:List ax)(i:Nat)(hi:i<rows.length):(lq rows i)[i]?=some (.sl U ((aP rows i).map (.int .i64))):=by
 unfold lq;have h:((rows.take i).map (ints .sub)).length=i:=by simp;omega
 rw[dB (by omega),h,m_,fK,Gv,Hr,ft hi,cP hi];rfl
theorem ZC(rows:List ax)(i:Nat)(hi:i<rows.length):(lq rows i).set i (.sl .sub ((aP rows i).map (.int .i64)))=lq rows (i+1):=by
 unfold lq;have h:((rows.take i).map (ints .sub)).length=i:=by simp;omega
 rw[vP _ _ (by omega),h,m_,dV hi,cP hi,bF,wh,ov,ft hi,cP hi];simp
theorem RS(rows:List ax):lq rows 0=rows.map (ints U):=by simp[lq]
theorem qry(rows:List ax)(n:Nat)(D:rows.length<=1000000)(C:n<=1000)(g:∀i,i<rows.length->(aP rows i).length=n):
 bo XV (XV.lin 207) 0 [6,13,66,67,68] rq ⟨[(6,.d (aG .sub rows)),(13,.d (.sl U [])),(66,.d (aG U rows)),(67,aa rows.length),(68,aa 0)],[]⟩=
  some (.exit 4,⟨[(6,.d (aG .sub rows)),(13,.d (.sl U ((iz rows rows.length).map (ints U)))),(66,.d (.sl U (lq rows rows.length))),(67,aa rows.length),(68,aa rows.length),(69,au false)],[]⟩):=by
 have h:=eu (X:=XV) (T:=XV.lin 207) (L:=0) (live:=[6,13,66,67,68]) (b:=rq) (n:=rows.length) (γ:=Unit) (st:=fun(A:List ax) i=>⟨[(6,.d (aG .sub rows)),(13,.d (.sl U (A.map (ints U)))),(66,.d (.sl U (lq rows i))),(67,aa rows.length),(68,aa i)],[]⟩) (step:=ry rows)
  (F:=fun A=>(.exit 4,⟨[(6,.d (aG .sub rows)),(13,.d (.sl U (A.map (ints U)))),(66,.d (.sl U (lq rows rows.length))),(67,aa rows.length),(68,aa rows.length),(69,au false)],[]⟩)) (R:=fun _=>(.ret,⟨[],[]⟩))
  (fun A i=>A.length<=i)
  (fun A _=>⟨by simp,by simp[rq,oN,px,oA,oZ,pq]⟩)
  (fun A i hi p=>by
   have o:=aV (n:=i) (by omega);have hc:=TC U rows (aP rows i) (by omega) (by rw[g i hi];omega) (fun j t=>by rw[g j t,g i hi]);have q:bU 1 24 (.sl U (A.map (ints U))) (.sl U [.sl U ((aP rows i).map (.int .i64))])=some (.sl U ((A++[aP rows i]).map (ints U))):=by have:=rR A U U U (aP rows i) (by omega);rw[cM];exact this
   have l:=X3 rows i hi;have ts:=ZC rows i hi;unfold ry;generalize lq rows i=tr at l ts⊢
   cases hq:pa rows (aP rows i)with
   |true=>rw[hq]at hc;refine⟨⟨_,by simp[rq,oN,px,oA,oZ,pq,hi,o,cut,l,ts,hc,q,aW,a6,bb,ba,splice];rfl,by simp[aA,aB]⟩,fun a' h=>by simp at h;subst h;simp;omega⟩
   |false=>rw[hq]at hc;refine⟨⟨_,by simp[rq,oN,px,oA,oZ,pq,hi,o,cut,l,ts,hc,a6,bb,ba,splice];rfl,by simp[aA,aB]⟩,fun a' h=>by simp at h;subst h;omega⟩)
  rows.length [] 0 ⟨[(6,.d (aG .sub rows)),(13,.d (.sl U [])),(66,.d (aG U rows)),(67,aa rows.length),(68,aa 0)],[]⟩ (by omega) (by simp) (by rw[RS];simp[aA,aB])
 have e:=GM rows rows.length 0 (by omega);have z:iz rows 0=[]:=by simp[iz]
 rw[z,dM]at e;rw[e]at h;exact h
theorem Ob(rows:List ax)(D:AV)(o:D.safe 0=true)(z:Nat)(n:Nat)(I:rows.length<=1000000)(F:n<=1000)(g:z<rows.length)(l:∀i,i<rows.length->(aP rows i).length=n):∀(j k:Nat),k+j=rows.length->
 ∃k':Int,bo XV (XV.lin 208) 0 [6,7,8,9,10] ng ⟨[(6,D),(7,.d (aG .sub rows)),(8,aa z),(9,au true),(10,aa k)],[]⟩=
  some (.exit 2,⟨[(6,D),(7,.d (aG .sub rows)),(8,aa z),(9,au ((aR (iW rows (aP rows z)) j k).isNone)),(10,aa k'),(36,au false)],[]⟩)
 |0,k,h=>by
  have e:k=rows.length:=by omega
  subst e;refine⟨rows.length,dN (s0:=⟨[(6,D),(7,.d (aG .sub rows)),(8,aa z),(9,au true),(10,aa rows.length)],[]⟩) (by simp[aA,aB,o]) ?_ (by simp)⟩;simp[ng,aR]
 |j+1,k,h=>by
  have e:k<rows.length:=by omega
  have t:=aV (n:=k) (by omega);have hc:=Zk (aP rows k) (aP rows z) (by rw[l k e];omega) (by rw[l k e,l z g]);have C:aA 0 [6,7,8,9,10] ⟨[(6,D),(7,.d (aG .sub rows)),(8,aa z),(9,au true),(10,aa k)],[]⟩=some ⟨[(6,D),(7,.d (aG .sub rows)),(8,aa z),(9,au true),(10,aa k)],[]⟩:=by simp[aA,aB,o]
  cases hq:o7 (aP rows k) (aP rows z)with
  |false=>
   rw[hq]at hc;obtain⟨k',H⟩:=Ob rows D o z n I F g l j (k+1) (by omega);refine⟨k',?_⟩;have q:aS XV (XV.lin 208) ng ⟨[(6,D),(7,.d (aG .sub rows)),(8,aa z),(9,au true),(10,aa k)],[]⟩=some (.normal,⟨[(6,D),(7,.d (aG .sub rows)),(8,aa z),(9,au true),(10,aa (k+1:Nat))],[]⟩):=by simp[ng,OZ,e,g,t,cut,cP e,cP g,hc]
   rw[eb C q,H];have:aR (iW rows (aP rows z)) (j+1) k=aR (iW rows (aP rows z)) j (k+1):=by simp[aR,iW,hq]
   rw[this]
  |true=>
   rw[hq]at hc;refine⟨(k+1:Nat),?_⟩;have q:aS XV (XV.lin 208) ng ⟨[(6,D),(7,.d (aG .sub rows)),(8,aa z),(9,au true),(10,aa k)],[]⟩=some (.normal,⟨[(6,D),(7,.d (aG .sub rows)),(8,aa z),(9,au false),(10,aa (k+1:Nat))],[]⟩):=by simp[ng,OZ,e,g,t,cut,cP e,cP g,hc]
   rw[eb C q];have J:aR (iW rows (aP rows z)) (j+1) k=some k:=by simp[aR,iW,hq]
   rw[J];refine dN (s0:=⟨[(6,D),(7,.d (aG .sub rows)),(8,aa z),(9,au false),(10,aa (k+1:Nat))],[]⟩) (by simp[aA,aB,o]) ?_ (by simp)
   by_cases K:k+1<rows.length
   ·have p:(k:Int)+1<rows.length:=by omega
    simp[ng,p]
   ·have p:¬(k:Int)+1<rows.length:=by omega
    simp[ng,p]
theorem T7(rows:List ax)(n:Nat)(z:rows.length<=1000000)(t:n<=1000)(p:∀i,i<rows.length->(aP rows i).length=n):
 bo XV (XV.lin 208) 0 [6,7,8] r7 ⟨[(6,.d (.sl U [])),(7,.d (aG .sub rows)),(8,aa 0)],[]⟩=
  some (.exit 0,⟨[(6,.d (.sl U ((iz rows rows.length).map (ints .sub)))),(7,.d (aG .sub rows)),(8,aa rows.length),(27,au false)],[]⟩):=by
 have h:=eu (X:=XV) (T:=XV.lin 208) (L:=0) (live:=[6,7,8]) (b:=r7) (n:=rows.length) (γ:=Unit) (st:=fun(A:List ax) i=>⟨[(6,.d (.sl U (A.map (ints .sub)))),(7,.d (aG .sub rows)),(8,aa i)],[]⟩) (step:=ry rows)
  (F:=fun A=>(.exit 0,⟨[(6,.d (.sl U (A.map (ints .sub)))),(7,.d (aG .sub rows)),(8,aa rows.length),(27,au false)],[]⟩)) (R:=fun _=>(.ret,⟨[],[]⟩))
  (fun A i=>A.length<=i)
  (fun A _=>⟨by simp,by simp[r7]⟩)
  (fun A i hi o=>by
   have l:=aV (n:=i) (by omega);obtain⟨k',e⟩:=Ob rows (.d (.sl U (A.map (ints .sub)))) rfl i n z t hi p rows.length 0 (by omega);have q:bU 1 24 (.sl U (A.map (ints .sub))) (.sl U [.sl .sub ((aP rows i).map (.int .i64))])=some (.sl U ((A++[aP rows i]).map (ints .sub))):=by have:=rR A .sub .sub U (aP rows i) (by omega);rw[cM];exact this
   unfold ry;have j:pa rows (aP rows i)=(aR (iW rows (aP rows i)) rows.length 0).isNone:=rfl;rw[<-j]at e;simp only[KS]at e;simp at e;cases hq:pa rows (aP rows i)with
   |true=>rw[hq]at e;refine⟨⟨_,by simp[r7,hi,l,cut,cP hi,e,q];rfl,by simp[aA,aB]⟩,fun a' h=>by simp at h;subst h;simp;omega⟩
   |false=>rw[hq]at e;refine⟨⟨_,by simp[r7,hi,l,e];rfl,by simp[aA,aB]⟩,fun a' h=>by simp at h;subst h;omega⟩)
  rows.length [] 0 ⟨[(6,.d (.sl U [])),(7,.d (aG .sub rows)),(8,aa 0)],[]⟩ (by omega) (by simp) (by simp[aA,aB])
 have g:=GM rows rows.length 0 (by omega);have C:iz rows 0=[]:=by simp[iz]
 rw[C,dM]at g;rw[g]at h;exact h
theorem Or(g j e:Tag)(x y:ax)(B:az)(l:x.length+y.length<=1099511627776):
 ak XV 225 [.d (.sl g [.sl j (x.map (.int .i64)),.sl e (y.map (.int .i64))])] B=some (.d (.sl U ((x++y).map (.int .i64))),B):=by
 rw[xq XV 225 _ _ lj rfl];have h:(x.length+y.length)*8<=140737488355328:=by omega
 simp[bd,lj,d7,wN,h];rfl
def iu(a b z:ax):Bool:=decide (0<dh z)&&r9 a b z
def dQ(a b x:ax)(right:List ax)(k:Nat):List ax:=((right.take k).map (x++·)).filter (iu a b)
theorem A8(a b x:ax)(right:List ax)(k:Nat)(d:k<right.length):dQ a b x right (k+1)=dQ a b x right k++(if iu a b (x++aP right k)then [x++aP right k]else []):=by
 unfold dQ;rw[ov,cM,List.filter_append]
 congr 1
 rw[ft d,cP d];simp[List.filter];split<;>simp_all
theorem Yz(a b x:ax)(right:List ax)(k:Nat):(dQ a b x right k).length<=k:=by unfold dQ;have:=List.length_filter_le (iu a b) ((right.take k).map (x++·));rw[cV,wm]at this;omega
def Cr(a b x:ax)(right acc:List ax)(k:Nat):List ax⊕Unit:= .inl (acc++(if iu a b (x++aP right k)then [x++aP right k]else []))
theorem I5(a b x:ax)(right acc:List ax):∀(j k:Nat),k+j<=right.length->runN (Cr a b x right) j (acc++dQ a b x right k) k= .inl (acc++dQ a b x right (k+j))
 |0,k,_=>rfl
 |j+1,k,h=>by
  simp only[runN,Cr];rw[bW,<-A8 a b x right k (by omega),I5 a b x right acc j (k+1) (by omega)]
  congr 3;omega
theorem qw9(a b x:ax)(right acc:List ax)(L:AV)(C:L.safe 0=true)(n i:Int)(ha:a.length<=1000)(hb:b.length<=1000)(hx:x.length=a.length)(l:0<x.length)(hr:right.length<=1000)(P:acc.length<=1000000)
 (I:∀i,i<right.length->(aP right i).length=b.length) (Z:0<b.length):
 bo XV (XV.lin 207) 0 [0,1,6,7,9,34,35,36,40,41,42] qH ⟨[(0,.d (is a)),(1,.d (is b)),(6,.d (aG U acc)),(7,.d (aG .sub right)),(9,.d (is x)),(34,L),(35,aa n),(36,aa i),(40,.d (aG .sub right)),(41,aa right.length),(42,aa 0)],[]⟩=
  some (.exit 2,⟨[(0,.d (is a)),(1,.d (is b)),(6,.d (aG U (acc++dQ a b x right right.length))),(7,.d (aG .sub right)),(9,.d (is x)),(34,L),(35,aa n),(36,aa i),(40,.d (aG .sub right)),(41,aa right.length),(42,aa right.length),(43,au false)],[]⟩):=by
 have h:=eu (X:=XV) (T:=XV.lin 207) (L:=0) (live:=[0,1,6,7,9,34,35,36,40,41,42]) (b:=qH) (n:=right.length) (γ:=Unit) (st:=fun(A:List ax) j=>⟨[(0,.d (is a)),(1,.d (is b)),(6,.d (aG U A)),(7,.d (aG .sub right)),(9,.d (is x)),(34,L),(35,aa n),(36,aa i),(40,.d (aG .sub right)),(41,aa right.length),(42,aa j)],[]⟩) (step:=Cr a b x right)
  (F:=fun A=>(.exit 2,⟨[(0,.d (is a)),(1,.d (is b)),(6,.d (aG U A)),(7,.d (aG .sub right)),(9,.d (is x)),(34,L),(35,aa n),(36,aa i),(40,.d (aG .sub right)),(41,aa right.length),(42,aa right.length),(43,au false)],[]⟩)) (R:=fun _=>(.ret,⟨[],[]⟩))
  (fun A j=>A.length<=1000000+j)
  (fun A _=>⟨by simp,by simp[qH,mp,ms,mW,mx,mJ,nc,rb,qs,qd,qA,nh,ml,oN,px,oA,oZ,pq,mm,mE,mY]⟩)
  (fun A j p O=>by
   have M:=aV (n:=j) (by omega);have q:=I j p;generalize hy:aP right j=y at*
   have D:right[j]=y:=by rw[cP p,hy]
   have V:x≠[]:=fun h=>by rw[h]at l;simp at l
   have Y:y≠[]:=fun h=>by rw[h]at q;simp at q;omega
   have J:=Or .sub .sub .sub x y [] (by omega);have h5:(x++y).length=a.length+b.length:=by rw[cD];omega
   have K:=GH (x++y) (by omega) (by omega);have t:=S1 a b (x++y) (by omega) (by omega) (by omega);have H:bU 1 24 (aG U A) (.sl U [.sl U ((x++y).map (.int .i64))])=some (aG U (A++[x++y])):=by have:=rR A U U U (x++y) (by omega);rw[show aG U (A++[x++y])= .sl U (A.map (ints U)++[ints U (x++y)])by simp[aG]];exact this
   unfold Cr;rw[hy];generalize hz:x++y=z at*
   by_cases e:0<dh z
   ·cases hq:r9 a b z with
    |true=>
     rw[hq]at t;have o:iu a b z=true:=by simp[iu,e,hq]
     simp only[o,if_true];refine⟨⟨_,by simp[qH,mp,ms,mW,mx,mJ,nc,rb,qs,qd,qA,nh,ml,oN,px,oA,oZ,pq,mm,mE,mY,p,M,cut,D,J,K,t,H,e];rfl,by simp[aA,aB,C]⟩,fun a' h=>by simp at h;subst h;simp;omega⟩
    |false=>
     rw[hq]at t;have o:iu a b z=false:=by simp[iu,e,hq]
     simp only[o];refine⟨⟨_,by simp[qH,mp,ms,mW,mx,mJ,nc,rb,qs,qd,qA,nh,ml,oN,px,oA,oZ,pq,mm,mE,mY,p,M,cut,D,J,K,t,H,e];rfl,by simp[aA,aB,C]⟩,fun a' h=>by simp at h;subst h;omega⟩
   ·have o:iu a b z=false:=by simp[iu,e]
    simp only[o];refine⟨⟨_,by simp[qH,mp,ms,mW,mx,mJ,nc,rb,qs,qd,qA,nh,ml,oN,px,oA,oZ,pq,mm,mE,mY,p,M,cut,D,J,K,H,e];rfl,by simp[aA,aB,C]⟩,fun a' h=>by simp at h;subst h;omega⟩)
  right.length acc 0 ⟨[(0,.d (is a)),(1,.d (is b)),(6,.d (aG U acc)),(7,.d (aG .sub right)),(9,.d (is x)),(34,L),(35,aa n),(36,aa i),(40,.d (aG .sub right)),(41,aa right.length),(42,aa 0)],[]⟩ (by omega) (by omega) (by simp[aA,aB,C])
 have g:=I5 a b x right acc right.length 0 (by omega);have h0:dQ a b x right 0=[]:=by simp[dQ]
 rw[h0,dM,cR]at g;rw[g]at h;exact h
theorem dz{l:ax}(h:b8 l=true):1<=l.length/\l.length<=5:=by unfold b8 b0 at h;simp at h;omega
theorem mq{l:ax}(h:b8 l=true)(i:Nat)(hi:i<l.length):1<=aE l i/\aE l i<=4:=by unfold b8 at h;simp only[cb,NZ]at h;have:=AW _ _ _ i h.1 (c7 _) (by omega);unfold kt b0 at this;simp at this;omega
theorem GL(l:ax)(lo hi:Int):∀(k i:Nat) (m:Int),i+k<=l.length->(∀j,j<l.length->lo<=aE l j/\aE l j<=hi)->lo<=m->m<=hi->lo<=iY l i k m/\iY l i k m<=hi
 |0,i,m,_,_,d,e=>⟨d,e⟩
 |k+1,i,m,g,h,d,e=>by
  simp only[iY];have:=h i (by omega);split
  ·exact GL l lo hi k (i+1) _ (by omega) h this.1 this.2
  ·exact GL l lo hi k (i+1) _ (by omega) h d e
theorem jP{l:ax}(h:b8 l=true):1<=dh l/\dh l<=4:=by have g:=dz h;have d:=mq h 0 (by omega);exact GL l 1 4 _ _ _ (by omega) (fun j e=>mq h j e) d.1 d.2
theorem M5{l:ax}(h:b8 l=true):Ap l=dh l:=by have e:=dz h;have g:=mq h 0 (by omega);unfold Ap dh;obtain⟨k,d⟩:∃k,l.length=k+1:=⟨l.length-1,by omega⟩;rw[d];simp only[iY,dM,Nat.add_sub_cancel];rw[ay (by omega)]
def a_(a b:ax):List ax:=ways a.length (dh b).toNat
def bz(a b:ax):List ax:=ways b.length (dh a).toNat
def dX(a b:ax)(k:Nat):List ax:=((a_ a b).take k).flatMap fun x=>dQ a b x (bz a b) (bz a b).length
def fk(a b:ax):List ax:=dX a b (a_ a b).length
theorem wD(a b:ax)(k:Nat)(d:k<(a_ a b).length):dX a b (k+1)=dX a b k++dQ a b (aP (a_ a b) k) (bz a b) (bz a b).length:=by unfold dX;rw[ov,Fw,ft d,cP d];simp
theorem yF(a b:ax)(d:(bz a b).length<=126):∀k,k<=(a_ a b).length->(dX a b k).length<=126*k
 |0,_=>by simp[dX]
 |k+1,h=>by rw[wD a b k (by omega),cD];have:=yF a b d k (by omega);have:=Yz a b (aP (a_ a b) k) (bz a b) (bz a b).length;omega
variable{m:Nat}
theorem U0(a b x:ax)(right:List ax)(k:Nat)(n:Nat)(hx:x.length+n=m)(h:∀r,r∈right->r.length=n):∀z,z∈dQ a b x right k->z.length=m:=by intro z d;unfold dQ at d;obtain⟨y,hy,rfl⟩:=cE.1 (Es.1 d).1;rw[cD,h y (pI hy)];exact hx
theorem H9(a b:ax)(k:Nat):∀z,z∈dX a b k->z.length=a.length+b.length:=by intro z d;unfold dX at d;obtain⟨x,hx,d⟩:=tX.1 d;have:=mD _ _ x (pI hx);exact U0 a b x _ _ b.length (by omega) (fun r e=>mD _ _ r e) z d
variable{i:Nat}
theorem jG{l:List ax}(h:i<l.length):aP l i∈l:=by rw[<-cP h];exact gY h
def DJ(a b:ax)(acc:List ax)(k:Nat):List ax⊕Unit:= .inl (acc++dQ a b (aP (a_ a b) k) (bz a b) (bz a b).length)
theorem K3(a b:ax):∀(j k:Nat),k+j<=(a_ a b).length->runN (DJ a b) j (dX a b k) k= .inl (dX a b (k+j))
 |0,k,_=>rfl
 |j+1,k,h=>by
  simp only[runN,DJ];rw[<-wD a b k (by omega),K3 a b j (k+1) (by omega)]
  congr 2;omega
theorem qBS(a b:ax)(C:b8 a=true)(D:b8 b=true):
 bo XV (XV.lin 207) 0 [0,1,6,7,34,35,36] xa ⟨[(0,.d (is a)),(1,.d (is b)),(6,.d (aG U [])),(7,.d (aG .sub (bz a b))),(34,.d (aG .sub (a_ a b))),(35,aa (a_ a b).length),(36,aa 0)],[]⟩=
  some (.exit 0,⟨[(0,.d (is a)),(1,.d (is b)),(6,.d (aG U (fk a b))),(7,.d (aG .sub (bz a b))),(34,.d (aG .sub (a_ a b))),(35,aa (a_ a b).length),(36,aa (a_ a b).length),(37,au false)],[]⟩):=by
 have la:=dz C;have P:=dz D;have M:=jP C;have O:=jP D;have I:(bz a b).length<=126:=kG _ _ (by omega) (by omega);have V:(a_ a b).length<=126:=kG _ _ (by omega) (by omega);have o:∀i,i<(bz a b).length->(aP (bz a b) i).length=b.length:=fun i hi=>mD _ _ _ (jG hi)
 have e:∀i,i<(a_ a b).length->(aP (a_ a b) i).length=a.length:=fun i hi=>mD _ _ _ (jG hi)
 have h:=eu (X:=XV) (T:=XV.lin 207) (L:=0) (live:=[0,1,6,7,34,35,36]) (b:=xa) (n:=(a_ a b).length) (γ:=Unit) (st:=fun(A:List ax) j=>⟨[(0,.d (is a)),(1,.d (is b)),(6,.d (aG U A)),(7,.d (aG .sub (bz a b))),(34,.d (aG .sub (a_ a b))),(35,aa (a_ a b).length),(36,aa j)],[]⟩) (step:=DJ a b)
  (F:=fun A=>(.exit 0,⟨[(0,.d (is a)),(1,.d (is b)),(6,.d (aG U A)),(7,.d (aG .sub (bz a b))),(34,.d (aG .sub (a_ a b))),(35,aa (a_ a b).length),(36,aa (a_ a b).length),(37,au false)],[]⟩)) (R:=fun _=>(.ret,⟨[],[]⟩))
  (fun A j=>A=dX a b j)
  (fun A _=>⟨by simp,by simp[xa,rb,qs,qd,qA]⟩)
  (fun A j l g=>by
   subst g;have J:=aV (n:=j) (by omega);have Y:=yF a b I j (by omega);have t:=qw9 a b (aP (a_ a b) j) (bz a b) (dX a b j) (.d (aG .sub (a_ a b))) rfl (a_ a b).length j (by omega) (by omega) (e j l) (by rw[e j l];omega) (by omega) (by omega) o (by omega);simp only[MQ]at t;generalize H:dX a b j++dQ a b (aP (a_ a b) j) (bz a b) (bz a b).length=q at t;generalize p:aP (a_ a b) j=x at*
   have z:(a_ a b)[j]=x:=by rw[cP l,p]
   unfold DJ;rw[p,H];refine⟨⟨_,by simp[xa,rb,qs,qd,qA,l,J,cut,z,t];rfl,by simp[aA,aB]⟩,fun a' h=>by simp at h;subst h;rw[wD a b j l,p,H]⟩)
  (a_ a b).length (dX a b 0) 0 ⟨[(0,.d (is a)),(1,.d (is b)),(6,.d (aG U (dX a b 0))),(7,.d (aG .sub (bz a b))),(34,.d (aG .sub (a_ a b))),(35,aa (a_ a b).length),(36,aa 0)],[]⟩ (by omega) rfl (by simp[aA,aB])
 rw[K3 a b _ 0 (by omega),dM]at h;have K:dX a b 0=[]:=by simp[dX]
 rw[K]at h;exact h
def bJ(a b:ax):List ax:=iz (fk a b) (fk a b).length
theorem WA(a b:ax)(la:a.length<=1099511627776)(t:b.length<=1099511627776):
 ak XV 207 [.d (is a),.d (is b)] []=some (.d (.tup (if b8 a=true/\b8 b=true/\(bJ a b).length<=60 then [.sl U ((bJ a b).map (ints U)),.bool true]else [.sl U [],.bool false])),[]):=by
 rw[aL 207 qZ rfl];have f1:=KN a la;have f2:=KN b t;cases ha:b8 a with
 |false=>rw[ha]at f1;simp[qZ,mp,ms,mW,mx,mJ,nc,nh,ml,mm,mE,mY,f1]
 |true=>
  rw[ha]at f1;cases hb:b8 b with
  |false=>rw[hb]at f2;simp[qZ,mp,ms,mW,mx,mJ,nc,nh,ml,mm,mE,mY,f1,f2]
  |true=>
   rw[hb]at f2;have la:=dz ha;have t:=dz hb;have H:=jP ha;have I:=jP hb;have z:(bz a b).length<=126:=kG _ _ (by omega) (by omega);have J:(a_ a b).length<=126:=kG _ _ (by omega) (by omega);have K:=yF a b z (a_ a b).length (bN _);have p:=GH a (by omega) (by omega);have q:=GH b (by omega) (by omega);have s1:=H2 b.length (dh a).toNat (by omega) (by omega);have j:=H2 a.length (dh b).toNat (by omega) (by omega);rw[Int.toNat_of_nonneg (by omega)]at s1 j;have l:=qBS a b ha hb;have h:=qry (fk a b) (a.length+b.length) (by unfold fk;omega) (by omega) (fun i hi=>H9 a b _ _ (jG hi));simp only[MQ]at l h;have F:ways b.length (dh a).toNat=bz a b:=rfl;have C:ways a.length (dh b).toNat=a_ a b:=rfl;rw[F]at s1;rw[C]at j;have D:iz (fk a b) (fk a b).length=bJ a b:=rfl;rw[D]at h;have o:aG U ([]:List ax)=DV.sl U []:=rfl;rw[o]at l;generalize fk a b=al at*
   generalize a_ a b=lf at*
   generalize bz a b=rt at*
   by_cases g:(bJ a b).length<=60
   ·have e:¬(60:Int)<(bJ a b).length:=by omega
    generalize bJ a b=bl at*
    simp[qZ,mp,ms,mW,mx,mJ,nc,nh,ml,mm,mE,mY,f1,f2,p,q,s1,j];rw[l];simp;rw[h];simp[g,e]
   ·have e:(60:Int)<(bJ a b).length:=by omega
    generalize bJ a b=bl at*
    simp[qZ,mp,ms,mW,mx,mJ,nc,nh,ml,mm,mE,mY,f1,f2,p,q,s1,j];rw[l];simp;rw[h];simp[g,e]
def rc(a b x y:ax):Bool:=W (bT b y 0 0 b.length)==W (bT a x 0 0 a.length)
def gx(a b x:ax)(right:List ax):Nat->List ax
 |0=>[]
 |k+1=>gx a b x right k++(if rc a b x (aP right (k+1))then [x++aP right (k+1)]else [])
theorem MM(a b x:ax)(right:List ax)(k:Nat):gx a b x right (k+1)=gx a b x right k++(if rc a b x (aP right (k+1))then [x++aP right (k+1)]else []):=rfl
theorem OE(a b x:ax)(right:List ax):∀k,(gx a b x right k).length<=k
 |0=>bN _
 |k+1=>by have:=OE a b x right k;simp only[gx,cD];split<;>simp<;>omega
def AJ(a b x:ax)(right acc:List ax)(k:Nat):List ax⊕Unit:= .inl (acc++(if rc a b x (aP right k)then [x++aP right k]else []))
theorem Nl(a b x:ax)(right acc:List ax):∀(j k:Nat),runN (AJ a b x right) j (acc++gx a b x right k) (k+1)= .inl (acc++gx a b x right (k+j))
 |0,k=>rfl
 |j+1,k=>by
  simp only[runN,AJ];rw[bW,<-MM,Nl a b x right acc j (k+1)]
  congr 3;omega
theorem Rh(a b x:ax)(left right acc:List ax)(i:Nat)(hi:i<left.length)(q:aP left i=x)(ha:a.length<=1000)(V:b.length<=1000)(hx:x.length=a.length)(hr:right.length<=1000)(M:0<right.length)(Y:left.length<=1000)(J:acc.length<=1000000)
 (o:∀i,i<right.length->(aP right i).length=b.length):
 bo XV (XV.lin 218) 0 [0,1,5,6,7,8,9,10] uu ⟨[(0,.d (is a)),(1,.d (is b)),(5,.d (aG U acc)),(6,.d (aG .sub left)),(7,.d (aG .sub right)),(8,aa i),(9,aa (W (bT a x 0 0 a.length))),(10,aa 1)],[]⟩=
  some (.exit 2,⟨[(0,.d (is a)),(1,.d (is b)),(5,.d (aG U (acc++gx a b x right (right.length-1)))),(6,.d (aG .sub left)),(7,.d (aG .sub right)),(8,aa i),(9,aa (W (bT a x 0 0 a.length))),(10,aa right.length),(38,au false)],[]⟩):=by
 have h:=eu (X:=XV) (T:=XV.lin 218) (L:=0) (live:=[0,1,5,6,7,8,9,10]) (b:=uu) (n:=right.length) (γ:=Unit) (st:=fun(A:List ax) j=>⟨[(0,.d (is a)),(1,.d (is b)),(5,.d (aG U A)),(6,.d (aG .sub left)),(7,.d (aG .sub right)),(8,aa i),(9,aa (W (bT a x 0 0 a.length))),(10,aa j)],[]⟩) (step:=AJ a b x right)
  (F:=fun A=>(.exit 2,⟨[(0,.d (is a)),(1,.d (is b)),(5,.d (aG U A)),(6,.d (aG .sub left)),(7,.d (aG .sub right)),(8,aa i),(9,aa (W (bT a x 0 0 a.length))),(10,aa right.length),(38,au false)],[]⟩)) (R:=fun _=>(.ret,⟨[],[]⟩))
  (fun A j=>A.length<=1000000+j)
  (fun A _=>⟨by simp,by simp[uu]⟩)
  (fun A j g H=>by
   have D:=aV (n:=j) (by omega);have P:=o j g;generalize hy:aP right j=y at*
   have C:right[j]=y:=by rw[cP g,hy]
   have t:left[i]=x:=by rw[cP hi,q]
   have l:=Lu b y 0 (by omega) (by omega) (by omega);have I:=pW [] x .sub (by simp;omega);have O:=pW x y .sub (by omega);have K:bU 1 24 (aG U A) (.sl U [.sl U ((x++y).map (.int .i64))])=some (aG U (A++[x++y])):=by have:=rR A U U U (x++y) (by omega);rw[show aG U (A++[x++y])= .sl U (A.map (ints U)++[ints U (x++y)])by simp[aG]];exact this
   simp only[bS,cp]at I;unfold AJ;rw[hy];generalize Z:x++y=z at*
   simp only[m8]at l;cases hq:rc a b x y with
   |true=>
    have p:(W (bT b y 0 0 b.length)==W (bT a x 0 0 a.length))=true:=hq;generalize W (bT b y 0 0 b.length)=d1 at*
    generalize W (bT a x 0 0 a.length)=d2 at*
    refine⟨⟨_,by simp[uu,g,hi,D,cut,C,t,l,I,O,K,p];rfl,by simp[aA,aB]⟩,fun a' h=>by simp at h;subst h;simp;omega⟩
   |false=>
    have p:(W (bT b y 0 0 b.length)==W (bT a x 0 0 a.length))=false:=hq;generalize W (bT b y 0 0 b.length)=d1 at*
    generalize W (bT a x 0 0 a.length)=d2 at*
    refine⟨⟨_,by simp[uu,g,D,cut,C,l,p];rfl,by simp[aA,aB]⟩,fun a' h=>by simp at h;subst h;omega⟩)
  (right.length-1) acc 1 ⟨[(0,.d (is a)),(1,.d (is b)),(5,.d (aG U acc)),(6,.d (aG .sub left)),(7,.d (aG .sub right)),(8,aa i),(9,aa (W (bT a x 0 0 a.length))),(10,aa 1)],[]⟩ (by omega) (by omega) (by simp[aA,aB])
 have e:=Nl a b x right acc (right.length-1) 0;simp only[gx,cR,dM]at e;rw[e]at h;exact h
def eh(a b:ax):Nat->List ax
 |0=>[]
 |k+1=>eh a b k++gx a b (aP (a_ a b) (k+1)) (bz a b) ((bz a b).length-1)
theorem Pa(a b:ax)(k:Nat):eh a b (k+1)=eh a b k++gx a b (aP (a_ a b) (k+1)) (bz a b) ((bz a b).length-1):=rfl
theorem NJ(a b:ax)(d:(bz a b).length<=126):∀k,(eh a b k).length<=126*k
 |0=>by simp[eh]
 |k+1=>by have:=NJ a b d k;have:=OE a b (aP (a_ a b) (k+1)) (bz a b) ((bz a b).length-1);simp only[eh,cD];omega
def D2(a b:ax)(acc:List ax)(k:Nat):List ax⊕Unit:= .inl (acc++gx a b (aP (a_ a b) k) (bz a b) ((bz a b).length-1))
theorem Ky(a b:ax):∀(j k:Nat),runN (D2 a b) j (eh a b k) (k+1)= .inl (eh a b (k+j))
 |0,k=>rfl
 |j+1,k=>by
  simp only[runN,D2];rw[<-Pa,Ky a b j (k+1)]
  congr 2;omega
theorem xw:∀(n m:Nat),0<(ways n m).length
 |0,m=>by simp[ways]
 |n+1,m=>by have:=xw n (m-0);simp only[ways,List.range_succ_eq_map,mt,cD,cV];omega
theorem PS(a b:ax)(p:b8 a=true)(z:b8 b=true):ak XV 218 [.d (is a),.d (is b)] []=some (.d (aG U (eh a b ((a_ a b).length-1))),[]):=by
 rw[aL 218 A6 rfl];have la:=dz p;have lb:=dz z;have ma:=jP p;have mb:=jP z;have Z:(bz a b).length<=126:=kG _ _ (by omega) (by omega);have hL:(a_ a b).length<=126:=kG _ _ (by omega) (by omega);have I:0<(bz a b).length:=xw _ _;have h1:0<(a_ a b).length:=xw _ _;have t:∀i,i<(bz a b).length->(aP (bz a b) i).length=b.length:=fun i hi=>mD _ _ _ (jG hi)
 have e:∀i,i<(a_ a b).length->(aP (a_ a b) i).length=a.length:=fun i hi=>mD _ _ _ (jG hi)
 have h:=eu (X:=XV) (T:=XV.lin 218) (L:=0) (live:=[0,1,5,6,7,8]) (b:=DD) (n:=(a_ a b).length) (γ:=Unit) (st:=fun(A:List ax) j=>⟨[(0,.d (is a)),(1,.d (is b)),(5,.d (aG U A)),(6,.d (aG .sub (a_ a b))),(7,.d (aG .sub (bz a b))),(8,aa j)],[]⟩) (step:=D2 a b)
  (F:=fun A=>(.exit 0,⟨[(0,.d (is a)),(1,.d (is b)),(5,.d (aG U A)),(6,.d (aG .sub (a_ a b))),(7,.d (aG .sub (bz a b))),(8,aa (a_ a b).length),(26,au false)],[]⟩)) (R:=fun _=>(.ret,⟨[],[]⟩))
  (fun A j=>0<j/\A=eh a b (j-1))
  (fun A _=>⟨by simp,by simp[DD]⟩)
  (fun A j g l=>by
   obtain⟨V,P⟩:=l;have hw:=aV (n:=j) (by omega);have C:=NJ a b Z (j-1);rw[<-P]at C;have O:=Lu a (aP (a_ a b) j) 0 (by omega) (by rw[e j g];omega) (by rw[e j g];omega);have o:=Rh a b (aP (a_ a b) j) (a_ a b) (bz a b) A j g rfl (by omega) (by omega) (e j g) (by omega) I (by omega) (by omega) t;simp only[JH]at o;have hS:A++gx a b (aP (a_ a b) j) (bz a b) ((bz a b).length-1)=eh a b (j+1-1):=by rw[P];obtain⟨i,rfl⟩:∃i,j=i+1:=⟨j-1,by omega⟩;rfl
   unfold D2;rw[hS]at o⊢
   generalize Y:aP (a_ a b) j=x at*
   have J:(a_ a b)[j]=x:=by rw[cP g,Y]
   simp only[m8]at O;generalize W (bT a x 0 0 a.length)=d2 at*
   generalize eh a b (j+1-1)=q at o⊢
   refine⟨⟨_,by simp[DD,g,hw,cut,J,O,o];rfl,by simp[aA,aB]⟩,fun a' h=>by simp at h;subst h;exact⟨by omega,rfl⟩⟩)
  ((a_ a b).length-1) (eh a b 0) 1 ⟨[(0,.d (is a)),(1,.d (is b)),(5,.d (aG U (eh a b 0))),(6,.d (aG .sub (a_ a b))),(7,.d (aG .sub (bz a b))),(8,aa 1)],[]⟩ (by omega) ⟨by omega,rfl⟩ (by simp[aA,aB])
 rw[Ky a b _ 0,dM]at h;simp only[JH]at h;have K:=MH a (by omega);have M:=MH b (by omega);rw[M5 p]at K;rw[M5 z]at M;have s1:=F5 b.length (dh a).toNat (by omega) (by omega);have H:=F5 a.length (dh b).toNat (by omega) (by omega);rw[Int.toNat_of_nonneg (by omega)]at s1 H;have e1:ways b.length (dh a).toNat=bz a b:=rfl;have e2:ways a.length (dh b).toNat=a_ a b:=rfl;rw[e1]at s1;rw[e2]at H;have D:aG U (eh a b 0)=DV.sl U []:=rfl;rw[D]at h;generalize eh a b ((a_ a b).length-1)=q at*
 generalize a_ a b=lf at*
 generalize bz a b=rt at*
 simp[A6,K,M,s1,H];rw[h];simp
theorem vK:∀n,n<6->∀m,m<5->(ways n m)[0]?=some (List.replicate n 0)/\(∀r,r∈ways n m->∀e,e∈r->(0:Int)<=e/\e<=4)/\(∀r,r∈(ways n m).drop 1->∃e,e∈r/\(0:Int)<e):=by decide+kernel
theorem EQ(r:ax)(lo hi:Int)(g:lo<=0)(d:0<=hi)(h:∀e,e∈r->lo<=e/\e<=hi)(i:Nat):lo<=aE r i/\aE r i<=hi:=by
 unfold aE;cases hq:r[i]? with
 |none=>simpa using ⟨g,d⟩
 |some e=>simpa using h e (ow hq)
theorem sF(a x:ax)(o:Nat)(e:∀i,i<a.length->1<=aE a i/\aE a i<=4)(hx:∀i,0<=aE x i/\aE x i<=4):∀(k i:Nat),i+k<=a.length->0<=bT a x o i k/\bT a x o i k<=16*k
 |0,i,_=>by simp[bT]
 |k+1,i,h=>by
  have l:=sF a x o e hx k (i+1) (by omega);have g:=e i (by omega);have d:=hx (o+i);have j:0<=aE a i*aE x (o+i):=Int.mul_nonneg (by omega) d.1;have p:aE a i*aE x (o+i)<=4*4:=Int.mul_le_mul g.2 d.2 d.1 (by omega);simp only[bT]
  push_cast
  omega
theorem Ip(a x:ax)(o:Nat)(d:∀i,i<a.length->1<=aE a i/\aE a i<=4)(hx:∀i,0<=aE x i/\aE x i<=4):∀(k i j:Nat),i+k<=a.length->i<=j->j<i+k->0<aE x (o+j)->0<bT a x o i k
 |0,i,j,_,l,q,_=>by omega
 |k+1,i,j,h,l,q,e=>by
  have t:=sF a x o d hx k (i+1) (by omega);have z:=d i (by omega);have p:=hx (o+i);have C:0<=aE a i*aE x (o+i):=Int.mul_nonneg (by omega) p.1;simp only[bT]
  by_cases g:j=i
  ·subst g
   have:0<aE a j*aE x (o+j):=Int.mul_pos (by omega) e;omega
  ·have:=Ip a x o d hx k (i+1) j (by omega) (by omega) (by omega) e
   omega
theorem IS(a x:ax)(o:Nat):∀(k i:Nat),(∀j,i<=j->j<i+k->aE x (o+j)=0)->bT a x o i k=0
 |0,i,_=>rfl
 |k+1,i,h=>by simp only[bT];rw[h i (bN _) (by omega),IS a x o k (i+1) (fun j d e=>h j (by omega) (by omega))];omega
theorem E_(a x y:ax)(o d:Nat):∀(k i:Nat),(∀j,i<=j->j<i+k->aE x (o+j)=aE y (d+j))->bT a x o i k=bT a y d i k
 |0,i,_=>rfl
 |k+1,i,h=>by simp only[bT];rw[h i (bN _) (by omega),E_ a x y o d k (i+1) (fun j e g=>h j (by omega) (by omega))]
theorem Cd(x y:ax)(i:Nat)(h:i<x.length):aE (x++y) i=aE x i:=by unfold aE;rw[ed h]
theorem L5(x y:ax)(i:Nat):aE (x++y) (x.length+i)=aE y i:=by unfold aE;rw[dB (by omega)];congr 2;omega
theorem D8(n i:Nat):aE (List.replicate n 0) i=0:=by
 unfold aE;cases hq:(List.replicate n (0:Int))[i]? with
 |none=>rfl
 |some e=>have:=Mg (ow hq);simp[this]
theorem CG{x:Int}(e:0<=x)(d:x<=1000):W x=x:=wrap_i64 (by omega) (by omega)
theorem Jp(l:ax):∀(k i:Nat) (m:Int),(0<m\/∃j,i<=j/\j<i+k/\0<aE l j)->0<iY l i k m
 |0,i,m,h=>by
  rcases h with h|⟨j,e,g,_⟩
  ·exact h
  ·omega
 |k+1,i,m,h=>by
  simp only[iY];refine Jp l k (i+1) _ ?_;rcases h with h|⟨j,e,g,o⟩
  ·left;split<;>omega
  ·by_cases d:j=i
   ·subst d;left;split<;>omega
   ·exact .inr ⟨j,by omega,by omega,o⟩
theorem OU(l:ax)(d:∀j,aE l j=0):∀(k i:Nat),iY l i k 0=0
 |0,i=>rfl
 |k+1,i=>by simp only[iY,d];exact OU l d k (i+1)
structure Way(n:Nat)(x:ax):Prop where
 len:x.length=n
 at_:∀i,0<=aE x i/\aE x i<=4
variable{x:ax}{n:Nat}
theorem JU(g:n<=5)(j:m<=4)(h:x∈ways n m):Way n x:=⟨mD n m x h,fun i=>EQ x 0 4 (by omega) (by omega) (fun e d=>(vK n (by omega) m (by omega)).2.1 x h e d) i⟩
theorem K9(d:n<=5)(e:m<=4):aP (ways n m) 0=List.replicate n 0:=by have:=(vK n (by omega) m (by omega)).1;simp[aP,this]
theorem Km(p:n<=5)(q:m<=4)(hi:i+1<(ways n m).length):∃j,j<n/\0<aE (aP (ways n m) (i+1)) j:=by
 have d:aP (ways n m) (i+1)∈(ways n m).drop 1:=by rw[<-cP hi];exact jN.2 ⟨i,by rw[Gv,E6 1 i];simp[hi]⟩
 obtain⟨e,h,o⟩:=(vK n (by omega) m (by omega)).2.2 _ d;obtain⟨j,g⟩:=jN.1 h;have l:=Fs n m (i+1) hi;refine⟨j,by rw[<-l];exact(cW.1 g).1,?_⟩;simp[aE,g,o]
variable{y:ax}
theorem JK{a b:ax}(g:b8 a=true)(l:b8 b=true)(hx:Way a.length x)(hy:Way b.length y):r9 a b (x++y)=decide (bT a x 0 0 a.length=bT b y 0 0 b.length):=by
 have la:=dz g;have F:=dz l;have z:=sF a x 0 (fun i hi=>mq g i hi) hx.at_ a.length 0 (by omega);have D:=sF b y 0 (fun i hi=>mq l i hi) hy.at_ b.length 0 (by omega);have q:bT a (x++y) 0 0 a.length=bT a x 0 0 a.length:=E_ a _ _ 0 0 _ _ (fun j p h=>by have:=hx.len;simp only[dM];exact Cd x y j (by omega))
 have C:bT b (x++y) a.length 0 b.length=bT b y 0 0 b.length:=E_ b _ _ a.length 0 _ _ (fun j p h=>by rw[<-hx.len,L5,dM])
 have d:aR (li (x++y)) (x++y).length 0=none:=by
  cases hq:aR (li (x++y)) (x++y).length 0 with
  |none=>rfl
  |some j=>
   obtain⟨_,h,e⟩:=dA _ _ _ _ hq;exfalso;unfold li at e;simp only[cA]at e
   by_cases t:j<x.length
   ·rw[Cd x y j t]at e
    have:=(hx.at_ j).1;omega
   ·obtain⟨i,rfl⟩:∃i,j=x.length+i:=⟨j-x.length,by omega⟩
    rw[L5]at e;have:=(hy.at_ i).1;omega
 unfold r9;rw[d,q,C,CG z.1 (by omega),CG D.1 (by omega)];have o:(x++y).length=a.length+b.length:=by rw[cD,hx.len,hy.len]
 simp[o];rw[nZ];simp
theorem NP{a b:ax}(d:b8 a=true)(e:b8 b=true)(hx:Way a.length x)(hy:Way b.length y):rc a b x y=decide (bT a x 0 0 a.length=bT b y 0 0 b.length):=by have la:=dz d;have l:=dz e;have g:=sF a x 0 (fun i hi=>mq d i hi) hx.at_ a.length 0 (by omega);have j:=sF b y 0 (fun i hi=>mq e i hi) hy.at_ b.length 0 (by omega);unfold rc;rw[CG g.1 (by omega),CG j.1 (by omega),nZ];simp only[wX,cA];constructor<;>exact fun h=>h.symm
theorem ZF(l:0<x.length)(h:∃j,j<x.length/\0<aE x j):0<dh (x++y):=by
 obtain⟨j,e,d⟩:=h;have o:(x++y).length=x.length+y.length:=cD;unfold dh;refine Jp _ _ _ _ ?_
 by_cases g:j=0
 ·subst g
  left;rw[Cd x y 0 l];exact d
 ·right
  exact⟨j,by omega,by omega,by rw[Cd x y j e];exact d⟩
theorem QZ{a b:ax}(d:b8 a=true)(e:b8 b=true):fk a b=eh a b ((a_ a b).length-1):=by
 have la:=dz d;have z:=dz e;have Y:=jP d;have Z:=jP e;have na:(dh a).toNat<=4:=by omega
 have nb:(dh b).toNat<=4:=by omega
 have V:0<(bz a b).length:=xw _ _;have t:0<(a_ a b).length:=xw _ _;have H:∀i,i<(a_ a b).length->Way a.length (aP (a_ a b) i):=fun i hi=>JU la.2 nb (jG hi)
 have o:∀i,i<(bz a b).length->Way b.length (aP (bz a b) i):=fun i hi=>JU z.2 na (jG hi)
 have I:aP (a_ a b) 0=List.replicate a.length 0:=K9 la.2 nb;have F:aP (bz a b) 0=List.replicate b.length 0:=K9 z.2 na;have J:∀i,i+1<(a_ a b).length->∃j,j<a.length/\0<aE (aP (a_ a b) (i+1)) j:=fun i hi=>Km la.2 nb hi
 have K:∀i,i+1<(bz a b).length->∃j,j<b.length/\0<aE (aP (bz a b) (i+1)) j:=fun i hi=>Km z.2 na hi
 have C:∀(c:ax) (n:Nat),bT c (List.replicate n 0) 0 0 c.length=0:=fun c n=>IS c _ 0 _ _ (fun j _ _=>D8 _ _)
 have s0:∀k,k<=(bz a b).length->dQ a b (aP (a_ a b) 0) (bz a b) k=[]:=by
  intro k
  induction k with
  |zero=>intro _;simp[dQ]
  |succ k p=>
   intro g;rw[A8 a b _ _ k (by omega),p (by omega)];have q:iu a b (aP (a_ a b) 0++aP (bz a b) k)=false:=by
    have P:=JK d e (H 0 t) (o k (by omega));unfold iu;rw[P,I,C];cases k with
    |zero=>
     rw[F];have:dh (List.replicate a.length 0++List.replicate b.length 0)=0:=by rw[Uq];unfold dh;rw[D8];exact OU _ (fun j=>D8 _ j) _ _
     rw[this];rfl
    |succ k=>
     obtain⟨j,X,M⟩:=K k (by omega);have:=Ip b (aP (bz a b) (k+1)) 0 (fun i hi=>mq e i hi) (o (k+1) (by omega)).at_ b.length 0 j (by omega) (by omega) (by omega) (by rw[dM];exact M);have h:¬((0:Int)=bT b (aP (bz a b) (k+1)) 0 0 b.length):=by omega
     simp[h]
   rw[q];rfl
 have s1:∀i,i+1<(a_ a b).length->∀k,k+1<=(bz a b).length->dQ a b (aP (a_ a b) (i+1)) (bz a b) (k+1)=gx a b (aP (a_ a b) (i+1)) (bz a b) k:=by
  intro i hi k;have l:=H (i+1) hi;obtain⟨j,R,D⟩:=J i hi;have hd:=Ip a (aP (a_ a b) (i+1)) 0 (fun i hi=>mq d i hi) l.at_ a.length 0 j (by omega) (by omega) (by omega) (by rw[dM];exact D);have O:∀y,0<dh (aP (a_ a b) (i+1)++y):=fun y=>ZF (by rw[l.len];omega) ⟨j,by rw[l.len];exact R,D⟩
  have q:∀k,k<(bz a b).length->iu a b (aP (a_ a b) (i+1)++aP (bz a b) k)=rc a b (aP (a_ a b) (i+1)) (aP (bz a b) k):=fun k g=>by unfold iu;rw[JK d e l (o k g),NP d e l (o k g)];simp[O]
  induction k with
  |zero=>
   intro g;rw[A8 a b _ _ 0 (by omega),q 0 (by omega),NP d e l (o 0 (by omega)),F,C];have h:¬(bT a (aP (a_ a b) (i+1)) 0 0 a.length=0):=by omega
   simp[h,dQ,gx]
  |succ k p=>intro g;rw[A8 a b _ _ (k+1) (by omega),p (by omega),q (k+1) (by omega),MM]
 have main:∀k,k+1<=(a_ a b).length->dX a b (k+1)=eh a b k:=by
  intro k
  induction k with
  |zero=>intro g;rw[wD a b 0 (by omega),s0 _ (bN _)];simp[dX,eh]
  |succ k p=>intro g;rw[wD a b (k+1) (by omega),p (by omega),Pa];have:=s1 k (by omega) ((bz a b).length-1) (by omega);rw[show(bz a b).length-1+1=(bz a b).length by omega]at this;rw[this]
 have:=main ((a_ a b).length-1) (by omega);rw[show(a_ a b).length-1+1=(a_ a b).length by omega]at this;exact this
theorem YX(a b:ax)(la:a.length<=1099511627776)(l:b.length<=1099511627776):
 ak XV 208 [.d (is a),.d (is b)] []=some (.d (.tup (if b8 a=true/\b8 b=true/\(bJ a b).length<=60 then [.sl U ((bJ a b).map (ints .sub)),.bool true]else [.sl U [],.bool false])),[]):=by
 rw[aL 208 pV rfl];have f1:=JA a la;have f2:=JA b l;cases ha:b8 a with
 |false=>rw[ha]at f1;simp[pV,f1]
 |true=>
  rw[ha]at f1;cases hb:b8 b with
  |false=>rw[hb]at f2;simp[pV,f1,f2]
  |true=>
   rw[hb]at f2;have la:=dz ha;have l:=dz hb;have q:=jP ha;have t:=jP hb;have o:(bz a b).length<=126:=kG _ _ (by omega) (by omega);have z:(a_ a b).length<=126:=kG _ _ (by omega) (by omega);have C:=yF a b o (a_ a b).length (bN _);have j:=PS a b ha hb;rw[<-QZ ha hb]at j;have h:=T7 (fk a b) (a.length+b.length) (by unfold fk;omega) (by omega) (fun i hi=>H9 a b _ _ (jG hi));simp only[KS]at h;have p:iz (fk a b) (fk a b).length=bJ a b:=rfl;rw[p]at h;generalize fk a b=al at*
   by_cases g:(bJ a b).length<=60
   ·have e:¬(60:Int)<(bJ a b).length:=by omega
    generalize bJ a b=bl at*
    simp[pV,f1,f2,j];rw[h];simp[g,e]
   ·have e:(60:Int)<(bJ a b).length:=by omega
    generalize bJ a b=bl at*
    simp[pV,f1,f2,j];rw[h];simp[g,e]
def J3(bs:ax)(pos st:Int):aH:=[.d (.sl .sub (bs.map (.int .u8))),aa pos,aa st]
variable{c:aH}{B:az}
theorem PG(h:i<B.length):cd (B.set i (some c)) i=some c:=by simp[cd,h]
theorem ZH(h:cd B i=some c):i<B.length:=by
 rcases mh i B.length with d|d
 ·exact d
 ·simp[cd,jf d]at h
def Turned(bs:ax)(i:Nat)(B B':az):Prop:=∃pos st:Int,(0<=pos/\pos<=bs.length)/\B'=B.set i (some (J3 bs pos st))
def qK5(bs:ax)(i:Nat)(B:az):Prop:=∃pos st:Int,(0<=pos/\pos<=bs.length)/\cd B i=some (J3 bs pos st)
variable{B':az}
theorem Turned.at{bs:ax}(hi:i<B.length)(h:Turned bs i B B'):qK5 bs i B':=by obtain⟨pos,st,d,rfl⟩:=h;exact⟨pos,st,d,PG hi⟩
theorem Turned.len{bs:ax}(h:Turned bs i B B'):B'.length=B.length:=by obtain⟨pos,st,d,rfl⟩:=h;simp
theorem Turned.trans{bs:ax}{d:az}(h:Turned bs i B B')(h':Turned bs i B' d):Turned bs i B d:=by obtain⟨pos,st,j,rfl⟩:=h;obtain⟨pos',g,e,rfl⟩:=h';exact⟨pos',g,e,by simp⟩
theorem qK5.lt{bs:ax}(h:qK5 bs i B):i<B.length:=by obtain⟨_,_,_,h⟩:=h;exact ZH h
@[simp high] theorem qWp(l:ax):(l.map (DV.int .u8)).map DV.clr=l.map (DV.int .u8):=by simp[eI,lN]
def bc(ways:List ax)(m:Nat):Nat->List ax
 |0=>[]
 |i+1=>if m.testBit i then bc ways m i++[aP ways i]else bc ways m i
theorem xO(ways:List ax)(m:Nat):∀i,(bc ways m i).length<=i
 |0=>bN _
 |i+1=>by have:=xO ways m i;unfold bc;split<;>simp<;>omega
theorem Ng(a:List ax)(n:ax)(h:a.length<=1099511627776):bU 1 24 (.sl U (a.map (ints .sub))) (.sl U [ints .sub n])=some (.sl U ((a++[n]).map (ints .sub))):=by
 have d:(a.map (ints .sub)).all (fun e=>decide (e.cells.length=1))=true:=by
  rw[cm];intro y hy
  obtain⟨z,_,rfl⟩:=cE.1 hy;rfl
 unfold bU;simp only;rw[ay (by rfl)];simp only[gN,bh,if_false];rw[ay ⟨by simp;omega,trivial,d⟩];simp
section
variable (f next:Int) (all:ah) (ways:List ax) (others:bg) (u:aF) (k N:Nat)
def iU(m:Nat):aI:=[(0,.ptr k 0),(3,.d (be others)),(4,.d (binds .sub u)),(5,aa next),(7,.ptr N 0),(18,.d (aG .sub ways)),(20,.d (ao .sub all)),(21,aa m)]
def jx(m:Nat)(C:DV)(i:Nat):aI:=[(0,.ptr k 0),(3,.d (be others)),(4,.d (binds .sub u)),(5,aa next),(7,.ptr N 0),(18,.d (aG .sub ways)),(20,.d (ao .sub all)),(21,aa m),(22,.d C),(86,.d (aG .sub ways)),(87,aa ways.length),(88,aa i)]
theorem Y5(m:Nat)(Bx:az)(z:Bx.length=N+2)(K:k<N)(J:ways.length<=30)(I:m<1099511627776):
 bo XV (XV.lin 268) (N+2) [0,3,4,5,7,18,20,21,22,86,87,88] rB ⟨jx next all ways others u k N m (.sl U []) 0,Bx⟩=
  some (.exit 2,⟨jx next all ways others u k N m (.sl U ((bc ways m ways.length).map (ints .sub))) ways.length++[(89,au false)],Bx⟩):=by
 have D:Bx.take (N+2)=Bx:=dC (by omega);have j:k<N+2:=by omega
 have h:=dS (X:=XV) (T:=XV.lin 268) (L:=N+2) (live:=[0,3,4,5,7,18,20,21,22,86,87,88]) (b:=rB) (n:=ways.length) (γ:=Unit) (R:=fun _=>(.ret,⟨[],[]⟩)) (step:=fun _ _=> .inl ())
  (st:=fun(_:Unit) i=>⟨jx next all ways others u k N m (.sl U ((bc ways m i).map (ints .sub))) i,Bx⟩) 2 89 (fun _ _=>True) ()
  (fun _ _=>by simp[rB,fb,fS,eZ,fV,fD,fw,fQ,fC,fo,fB,fN,fi,fU,fE,fT,eY,fy,fA,fz,fH,fc,jx])
  (fun _ i hi _=>by
   have l:=aV (n:=i) (by omega);have H:=xO ways m i;have F:=Ng (bc ways m i) (aP ways i) (by omega);have g:=Nc m i (by omega);have C:m/2^i<4611686018427387904:=Nat.lt_of_le_of_lt (Nat.div_le_self _ _) (by omega);have e:=and_one (m/2^i) C;have d:=MY m i;generalize m/2^i=q at g e d;generalize q%2=r at e d;have o:=cP hi;have t:bc ways m (i+1)=if m.testBit i then bc ways m i++[aP ways i]else bc ways m i:=rfl
   generalize aP ways i=row at*
   refine⟨?_,fun _ _=>trivial⟩
   by_cases p:m.testBit i=true
   ·rw[ay p]at t
    refine⟨⟨jx next all ways others u k N m (.sl U ((bc ways m (i+1)).map (ints .sub))) (i+1),Bx⟩,?_,by simp[jx,aA,aB,z,D,j]⟩;rw[t];generalize (bc ways m i++[row]).map (ints .sub)=L2 at*
    generalize (bc ways m i).map (ints .sub)=L1 at*
    simp only[N6]at F;simp[rB,fb,fS,eZ,fV,fD,fw,fQ,fC,fo,fB,fN,fi,fU,fE,fT,eY,fy,fA,fz,fH,fc,jx,hi,l,cut,o,F,g,e,d,p,splice]
   ·rw[aD p]at t
    refine⟨⟨jx next all ways others u k N m (.sl U ((bc ways m (i+1)).map (ints .sub))) (i+1),Bx⟩,?_,by simp[jx,aA,aB,z,D,j]⟩;rw[t];simp[rB,fb,fS,eZ,fV,fD,fw,fQ,fC,fo,fB,fN,fi,fU,fE,fT,eY,fy,fA,fz,fH,fc,jx,hi,l,cut,o,g,e,d,p,splice])
  trivial (by simp[jx,aA,aB,z,D,j,bc])
 rw[dv]at h;exact h
end
theorem J5(n:Nat)(d:n<=40):d6 .shl .i64 1 (n:Int)=some (.int .i64 ((2^n:Nat):Int)):=by
 unfold d6;have g:¬((n:Int)<0):=by omega
 have e:IntKind.i64.bits=64:=rfl;have h:min n 64=n:=by omega
 have j:2^n<=2^40:=Ie (by omega) d;simp only[aD g,te,e,h,ca,DV.int.injEq,qi,Int.one_mul];rw[show((2:Int)^n)=((2^n:Nat):Int)by rw[Int.natCast_pow];rfl,IntKind.wrap_i64];generalize 2^n=q at*
 omega
def lK(D:Nat->Bool)(_:Unit)(i:Nat):Unit⊕Nat:=if D i then .inr i else .inl ()
inductive UEv where
 |step
 |bad
 |found (u:aF)
abbrev ee:=List UEv
def US.ev(S:US)(e:UEv):US:=
 if S.over then S else match e with
 | .step=>{S with work:=S.work+1,over:=decide (400<S.work+1)}
 | .bad=>S.bad
 | .found u=>{S with told:=if jb S.told u then S.told else S.told++[u],over:=decide (60<(if jb S.told u then S.told else S.told++[u]).length)}
def US.run(S:US)(es:ee):US:=es.foldl US.ev S
theorem US.qeG(S:US)(h:S.over=true):∀es,S.run es=S
 | []=>rfl
 |e::es=>by
  have:S.ev e=S:=by unfold US.ev;rw[ay h]
  show US.run (S.ev e) es=S;rw[this];exact US.qeG S h es
theorem US.qqt(S:US)(a b:ee):S.run (a++b)=(S.run a).run b:=wG
theorem US.qhY(S:US):S.run []=S:=rfl
theorem US.qgI(S:US)(e:UEv)(b:ee):S.run (e::b)=(S.ev e).run b:=rfl
theorem US.qu8(S:US)(E:Nat->ee)(n:Nat):S.run ((List.range (n+1)).flatMap E)=(S.run ((List.range n).flatMap E)).run (E n):=by rw[List.range_succ,Fw,US.qqt];simp
theorem Rs(g h e:Tag)(q:h≠.nil)(z:e≠.nil)(a b:ah)(D:0<a.length)(C:a.length+b.length<=1099511627776):
 ak XV 272 [.d (.sl g [ao h a,ao e b])] []=some (.d (ao .sub (a++b)),[]):=by
 rw[xq XV 272 _ _ (ki 3 40) rfl];have j:rowsOf [ao h a,ao e b]=some [a.map (T.enc h),b.map (T.enc e)]:=rfl;have o:[a.map (T.enc h),b.map (T.enc e)].flatten=a.map (T.enc h)++b.map (T.enc e):=by simp
 have p:∀(g:Tag) (l:ah),(l.map (T.enc g)).all (fun x=>decide (x.cells.length=3))=true:=fun g l=>by
  rw[cm];intro x hx
  obtain⟨t,_,rfl⟩:=cE.1 hx;simp
 simp only[bd,b7,bO,ki,j,o];rw[ay ⟨by rw[Ee,p,p];rfl,by simp,by simp;omega⟩,aD (by simp only[cD,cV];omega)];simp only[cM,Ea h q,Ea e z,b7,ao]
def hH(all:ah)(ways:List ax)(i:Nat):Bool:=oX all (dL (bc ways (i+1) ways.length) all.length)
theorem OH(ps:List ax)(n:Nat)(h:1<=n/\n<=1000):(dL ps n).length=n:=by unfold dL;rw[ay (by omega),qI];simp
variable{k:Nat}{α:Type}
theorem j4{Q:List α}{x:α}(h:Q[k]?=some x):Q.set k x=Q:=by have:=List.set_getElem_self (as:=Q) (q_len h);rwa[dq h]at this
variable{s:aC}
section
variable (f next:Int) (all:ah) (ways:List ax) (others:bg) (u:aF) (k N:Nat)
theorem QM(Q:az)(hQ:Q.length=N)(S:US)(hq:Q[k]?=some (some (uB s S)))(xv yf yv:Int)(xk yk:ah)(E:Nat->ee)(hl:ways.length<=8)(a1:1<=all.length/\all.length<=1000)
 (hw:∀m,WaysOk (bc ways m ways.length) all.length) (hE:∀i,hH all ways i=false->E i=[])
 (h4:∀i S' Q',i+1<2^ways.length->S'=S.run ((List.range i).flatMap E)->S'.over=false->hH all ways i=true->Q'[k]?=some (some (uB s S'))->
  ak XV 274 [.ptr k 0,aa f,.d (ao .sub all),.d (aG .sub (bc ways (i+1) ways.length)),.d (be others),.d (binds .sub u),aa next] Q'=some (.d (.tup []),Q'.set k (some (uB s (S'.run (E i)))))):
 ∃r,bo XV (XV.lin 268) (N+2) [0,3,4,5,7,18,20,21] mI ⟨iU next all ways others u k N 1,Q++[some [aa f,aa xv,.d (ao .sub xk)],some [aa yf,aa yv,.d (ao .sub yk)]]⟩=
  some (.exit 0,⟨r,Q.set k (some (uB s (S.run ((List.range (2^ways.length-1)).flatMap E))))++[some [aa f,aa xv,.d (ao .sub xk)],some [aa yf,aa yv,.d (ao .sub yk)]]⟩):=by
 have hk:k<N:=by rw[<-hQ];exact q_len hq
 obtain⟨z,H⟩:∃z:Nat->US,∀i,z i=S.run ((List.range i).flatMap E):=⟨_,fun _=>rfl⟩;have x2:z 0=S:=by rw[H];rfl
 have P:∀i,z (i+1)=(z i).run (E i):=fun i=>by rw[H,H,US.qu8]
 obtain⟨bx,Y⟩:∃bx:az,bx=[some [aa f,aa xv,.d (ao .sub xk)],some [aa yf,aa yv,.d (ao .sub yk)]]:=⟨_,rfl⟩;have c1:bx.length=2:=by rw[Y];rfl
 obtain⟨e,g⟩:∃e:Nat->az,∀i,e i=Q.set k (some (uB s (z i)))++bx:=⟨_,fun _=>rfl⟩;have p:∀i,(e i).length=N+2:=fun i=>by rw[g];simp[hQ,c1]
 have h2:∀i,(e i)[k]?=some (some (uB s (z i))):=fun i=>by rw[g];exact dr (by rw[om (by omega)]) _
 have hBN:∀i,(e i)[N]?=some (some [aa f,aa xv,.d (ao .sub xk)]):=fun i=>by rw[g,Y,dB (by simp[hQ])];simp[hQ]
 have x3:e 0=Q++bx:=by rw[g,x2,j4 hq]
 obtain⟨D,hD⟩:∃D:Nat->Bool,∀i,D i=(z i).over:=⟨_,fun _=>rfl⟩;rw[<-Y,<-x3,<-H,<-g];have hpow:2^ways.length<=2^8:=Ie (by omega) hl;have hp1:1<=2^ways.length:=Nat.one_le_two_pow;have t:=J5 ways.length (by omega);have o:k<N+2:=by omega
 have hT:∀i,(e i).take (N+2)=e i:=fun i=>dC (by rw[p];omega)
 have hU:∀S:US,uB s S=[.d (sg s),.d (dI S.told),aa S.work,au S.over]:=fun _=>rfl
 have h:=bE (X:=XV) (T:=XV.lin 268) (L:=N+2) (live:=[0,3,4,5,7,18,20,21]) (b:=mI) (n:=2^ways.length-1) (γ:=Nat)
  (st:=fun(_:Unit) i=>⟨iU next all ways others u k N (i+1),e i⟩) (step:=lK D)
  (F:=fun _=>(.exit 0,⟨iU next all ways others u k N (2^ways.length-1+1)++[(82,au false)],e (2^ways.length-1)⟩)) (R:=fun i=>(.exit 0,⟨iU next all ways others u k N (i+1)++[(82,au false)],e i⟩))
  (fun _=>⟨by simp,by
   have q:¬((2^ways.length-1+1:Nat):Int)<((2^ways.length:Nat):Int):=by omega
   have V:=p (2^ways.length-1);simp only[iU];generalize ((2^ways.length:Nat):Int)=M at*
   generalize ((2^ways.length-1+1:Nat):Int)=m at*
   generalize e (2^ways.length-1)=B at*
   simp[mI,fb,fS,eZ,fV,fD,fw,fQ,fC,fo,fB,fN,fi,fU,fE,fT,eY,fy,fA,fz,fH,fc,iU,t,q,o,V]⟩)
  (fun _ i hi=>by
   have h1:=aV (n:=i+1) (by omega);have q:((i+1:Nat):Int)<((2^ways.length:Nat):Int):=by omega
   have V:=p i;have l:=h2 i;rw[hU]at l;unfold lK;have K:=hD i;generalize hdd:D i=dd at K;cases dd with
   |true=>
    rw[<-K]at l;simp only[if_true];refine⟨by simp,?_⟩;simp only[iU];generalize ((2^ways.length:Nat):Int)=M at*
    generalize ((i+1:Nat):Int)=m at*
    generalize e i=B at*
    simp[mI,fb,fS,eZ,fV,fD,fw,fQ,fC,fo,fB,fN,fi,fU,fE,fT,eY,fy,fA,fz,fH,fc,t,q,o,V,dq l,l]
   |false=>
    rw[<-K]at l;simp only[bh,if_false];have Z:=Y5 next all ways others u k N (i+1) (e i) (p i) hk (by omega) (by omega);have O:=qBR (bc ways (i+1) ways.length) all.length (by have:=(hw (i+1)).len;omega) (fun j hj=>by rw[(hw (i+1)).row j hj];omega);have c2:=OH (bc ways (i+1) ways.length) all.length a1;have C:=UO all (dL (bc ways (i+1) ways.length) all.length) c2 (by omega);simp only[IG,jx,dy]at Z;have h3:∀v,(e i).set k v=Q.set k v++bx:=fun v=>by rw[g,gq (by rw[om (by omega)]),wI]
    have I:e (i+1)=if hH all ways i then(e i).set k (some (uB s ((z i).run (E i))))else e i:=by
     split
     ·rw[h3,g,P]
     ·rename_i a2
      rw[g,g,P,hE i (by simpa using a2),US.qhY]
    have J:=h4 i (z i) (e i) (by omega) (H i) K.symm;refine⟨⟨iU next all ways others u k N (i+1+1),e (i+1)⟩,?_,by simp[iU,aA,aB,p,hT,o]⟩;have b1:oX all (dL (bc ways (i+1) ways.length) all.length)=hH all ways i:=rfl;rw[b1]at C;generalize hH all ways i=ff at*
    generalize hch:bc ways (i+1) ways.length=ch at*
    simp only[iU];have x1:=hBN i;have b2:=p (i+1);cases ff with
    |false=>
     simp only[bh,if_false]at I;rw[I];generalize ((2^ways.length:Nat):Int)=M at*
     generalize ((i+1:Nat):Int)=m at*
     generalize ((i+1+1:Nat):Int)=m2 at*
     generalize e i=B at*
     simp[mI,fb,fS,eZ,fV,fD,fw,fQ,fC,fo,fB,fN,fi,fU,fE,fT,eY,fy,fA,fz,fH,fc,t,q,o,V,dq l,l];rw[Z];simp[mI,fb,fS,eZ,fV,fD,fw,fQ,fC,fo,fB,fN,fi,fU,fE,fT,eY,fy,fA,fz,fH,fc,t,q,o,V,O,C,h1]
    |true=>
     have J:=J rfl (h2 i);simp only[if_true]at I;rw[<-I]at J;generalize e (i+1)=B2 at*
     generalize ((2^ways.length:Nat):Int)=M at*
     generalize ((i+1:Nat):Int)=m at*
     generalize ((i+1+1:Nat):Int)=m2 at*
     generalize e i=B at*
     simp[mI,fb,fS,eZ,fV,fD,fw,fQ,fC,fo,fB,fN,fi,fU,fE,fT,eY,fy,fA,fz,fH,fc,t,q,o,V,dq l,l];rw[Z];simp[mI,fb,fS,eZ,fV,fD,fw,fQ,fC,fo,fB,fN,fi,fU,fE,fT,eY,fy,fA,fz,fH,fc,t,q,o,V,b2,O,C,h1,dq x1,x1,J,splice])
  (2^ways.length-1) () 0 ⟨iU next all ways others u k N 1,e 0⟩ (by omega) (by simp[iU,aA,aB,p,hT,o])
 have h5:∀n i,match runN (lK D) n () i with| .inl _=>True| .inr j=>e j=e (i+n):=by
  intro n
  induction n with
  |zero=>intro i;trivial
  |succ n ih=>
   intro i;simp only[runN,lK];cases hd0:D i with
   |true=>
    simp only[if_true];have:∀m,z (i+m)=z i:=fun m=>by
     induction m with
     |zero=>rfl
     |succ m a3=>rw[<-Nat.add_assoc,P,a3,US.qeG _ (by rw[<-hD,hd0])]
    rw[g,g,this]
   |false=>simp only[bh,if_false];have:=ih (i+1);rwa[show i+1+n=i+(n+1)by omega]at this
 have hr:=h5 (2^ways.length-1) 0;rw[h];cases hrn:runN (lK D) (2^ways.length-1) () 0 with
 |inl a=>exact⟨_,rfl⟩
 |inr j=>rw[hrn]at hr;simp only[dM]at hr;rw[<-hr];exact⟨_,rfl⟩
end
theorem Ha{a b z:ax}(j:b8 a=true)(o:b8 b=true)(h:z∈bJ a b):z.length=a.length+b.length/\∀e,e∈z->0<=e/\e<=4:=by
 have g:z∈fk a b:=pI (Es.1 h).1;have la:=dz j;have t:=dz o;have p:=jP j;have q:=jP o;refine⟨H9 a b _ z g,?_⟩;unfold fk dX at g;obtain⟨x,hx,l⟩:=tX.1 g;unfold dQ at l;obtain⟨y,hy,rfl⟩:=cE.1 (Es.1 l).1;have f1:=(vK a.length (by omega) (dh b).toNat (by omega)).2.1 x (pI hx);have f2:=(vK b.length (by omega) (dh a).toNat (by omega)).2.1 y (pI hy);intro e d;rcases bu.1 d with d|d
 ·exact f1 e d
 ·exact f2 e d
theorem wl{ways:List ax}:∀{n:Nat} {z:ax},n<=ways.length->z∈bc ways m n->z∈ways
 |0,z,_,h=>by simp[bc]at h
 |n+1,z,d,h=>by
  unfold bc at h;split at h
  ·rcases bu.1 h with h|h
   ·exact wl (by omega) h
   ·rw[fF.1 h];exact jG (by omega)
  ·exact wl (by omega) h
theorem FC{a b:ax}(d:b8 a=true)(e:b8 b=true)(h:(bJ a b).length<=8)(m:Nat):WaysOk (bc (bJ a b) m (bJ a b).length) (a.length+b.length):=by
 have g:=xO (bJ a b) m (bJ a b).length;refine⟨by omega,fun i hi=>(Ha d e (wl (bN _) (jG hi))).1,fun i p=> ?_⟩
 by_cases hi:i<(bc (bJ a b) m (bJ a b).length).length
 ·have:=(Ha d e (wl (bN _) (jG hi))).2
  have:=EQ (aP (bc (bJ a b) m (bJ a b).length) i) 0 4 (by omega) (by omega) this p;omega
 ·have:aP (bc (bJ a b) m (bJ a b).length) i=[]:=by unfold aP;rw[jf (by omega)];rfl
  rw[this];simp[aE]
theorem CP:∀(x:ah) (a:ah×ah),(∀t,t∈(x.foldl eB a).1->t∈a.1\/t∈x)/\(∀t,t∈(x.foldl eB a).2->t∈a.2)/\(x.foldl eB a).1.length<=a.1.length+x.length/\(x.foldl eB a).2.length<=a.2.length
 | [],a=>⟨fun t h=> .inl h,fun t h=>h,bN _,bN _⟩
 |t::x,a=>by
  obtain⟨d,j,z,p⟩:=CP x (eB a t);simp only[jI];have e:(∀q,q∈(eB a t).1->q∈a.1\/q=t)/\(∀q,q∈(eB a t).2->q∈a.2)/\(eB a t).1.length<=a.1.length+1/\(eB a t).2.length<=a.2.length:=by
   unfold eB;split
   ·exact⟨fun q h=> .inl h,fun q h=>Cv h,by simp only;omega,Dh⟩
   ·exact⟨fun q h=>by simpa using h,fun q h=>h,by simp,bN _⟩
  obtain⟨g,l,e3,o⟩:=e;refine⟨fun q h=> ?_,fun q h=>l q (j q h),by simp only[cY];omega,by omega⟩;rcases d q h with h|h
  ·rcases g q h with h|h
   ·exact .inl h
   ·exact .inr (by simp[h])
  ·exact .inr (by simp[h])
theorem qC:∀(x:ah) (a:ah×ax),(∀t,t∈(x.foldl cntF a).1->t∈a.1\/t∈x)/\(x.foldl cntF a).1.length<=a.1.length+x.length
 | [],a=>⟨fun t h=> .inl h,bN _⟩
 |t::x,a=>by
  obtain⟨d,j⟩:=qC x (cntF a t);simp only[jI];have e:(∀q,q∈(cntF a t).1->q∈a.1\/q=t)/\(cntF a t).1.length<=a.1.length+1:=by
   unfold cntF;split
   ·exact⟨fun q h=> .inl h,by simp only;omega⟩
   ·exact⟨fun q h=>by simpa using h,by simp⟩
  obtain⟨g,l⟩:=e;refine⟨fun q h=> ?_,by simp only[cY];omega⟩;rcases d q h with h|h
  ·rcases g q h with h|h
   ·exact .inl h
   ·exact .inr (by simp[h])
  ·exact .inr (by simp[h])
theorem uA(l:ah):(bw l).2.length=(bw l).1.length:=qOv l ([],[]) rfl
def eK(rec:bg->aF->Int->ee)(s:aC)(f:Int)(all:ah)(ways:List ax)(others:bg)(u:aF)(next:Int)(m:Nat):ee:=if hH all ways m then(if 99<next+(bc ways (m+1) ways.length).length-1 then [.bad]else rec (db s f all (bc ways (m+1) ways.length) next all.length++others) u (next+(bc ways (m+1) ways.length).length))else []
def kM(a b:ax):Bool:=b8 a&&b8 b&&decide ((bJ a b).length<=8)
def uv(rec:bg->aF->Int->ee)(s:aC)(f:Int)(xk yk:ah)(others:bg)(u:aF)(next:Int):ee:=
 if(bV xk yk).1.length=0\/(bV xk yk).2.length=0 then []else
 if kM (bw (bV xk yk).1).2 (bw (bV xk yk).2).2 then
  (List.range (2^(bJ (bw (bV xk yk).1).2 (bw (bV xk yk).2).2).length-1)).flatMap (eK rec s f ((bw (bV xk yk).1).1++(bw (bV xk yk).2).1) (bJ (bw (bV xk yk).1).2 (bw (bV xk yk).2).2) others u next)
 else [.bad]
section
variable {s:aC} (f xv yv next:Int) (xk yk:ah) (others:bg) (u:aF) (k:Nat) (S:US) (Q:az) (rec:bg->aF->Int->ee)
theorem RI(hs:SgOk s)(C:Q[k]?=some (some (uB s S)))(a2:S.over=false)(hn:0<=next/\next<=1000)(x3:others.length<=1000000000)(lx:xk.length<=1099511627776)(ly:yk.length<=1099511627776)(bx:∀t,t∈xk->t.inner<=1099511627776)(x1:∀t,t∈yk->t.inner<=1099511627776)
 (z:∀all ways m S' Q',kM (bw (bV xk yk).1).2 (bw (bV xk yk).2).2=true->all=(bw (bV xk yk).1).1++(bw (bV xk yk).2).1->ways=bJ (bw (bV xk yk).1).2 (bw (bV xk yk).2).2->hH all ways m=true->(∃i,S'=S.run ((List.range i).flatMap (eK rec s f all ways others u next)))->S'.over=false->Q'[k]?=some (some (uB s S'))->next+(bc ways (m+1) ways.length).length-1<=99->
  ak XV 263 [.ptr k 0,.d (be (db s f all (bc ways (m+1) ways.length) next all.length++others)),.d (binds .sub u),aa (next+(bc ways (m+1) ways.length).length)] Q'=
   some (.d (.tup []),Q'.set k (some (uB s (S'.run (rec (db s f all (bc ways (m+1) ways.length) next all.length++others) u (next+(bc ways (m+1) ways.length).length))))))):
 ak XV 268 [.ptr k 0,.d ((T.node f xv xk).enc .sub),.d ((T.node f yv yk).enc .sub),.d (be others),.d (binds .sub u),aa next] Q=some (.d (.tup []),Q.set k (some (uB s (S.run (uv rec s f xk yk others u next))))):=by
 rw[aL 268 nS rfl];have hk:=q_len C;have hU:∀S:US,uB s S=[.d (sg s),.d (dI S.told),aa S.work,au S.over]:=fun _=>rfl
 have q:=WT xk yk lx ly bx x1
 obtain⟨K,H,V,O⟩:=CP xk ([],yk);have K:∀t,t∈(bV xk yk).1->t∈xk:=fun t h=>by rcases K t h with h|h;(·simp at h);exact h
 have H:∀t,t∈(bV xk yk).2->t∈yk:=H;have V:(bV xk yk).1.length<=xk.length:=by show(xk.foldl eB ([],yk)).1.length<=_;simpa using V
 have O:(bV xk yk).2.length<=yk.length:=O;generalize h5:bV xk yk=ap at*
 obtain⟨l,r⟩:=ap;simp only at K H V O q z;unfold uv;rw[h5];simp only;have n3:k<Q.length+1:=by omega
 have n4:k<Q.length+2:=by omega
 by_cases he:l.length=0\/r.length=0
 ·rw[ay he,US.qhY,j4 C]
  by_cases x2:l.length=0
  ·have:l=[]:=ib.1 x2
   subst this;simp[nS,fb,fS,eZ,fV,fD,fw,fQ,fC,fo,fB,fN,fi,fU,fE,fT,eY,fy,fA,fz,fH,fc,hk,n3,n4,get_at,ji,splice,q]
  ·have a1:r.length=0:=by omega
   have:r=[]:=ib.1 a1;subst this;have F:(((l.length:Int))==0)=false:=dR (by omega);simp[nS,fb,fS,eZ,fV,fD,fw,fQ,fC,fo,fB,fN,fi,fU,fE,fT,eY,fy,fA,fz,fH,fc,hk,n3,n4,get_at,ji,splice,q,F]
 ·rw[aD he]
  have F:(((l.length:Int))==0)=false:=dR (by omega);have X:(((r.length:Int))==0)=false:=dR (by omega);have M:=On l (by omega) (fun t h=>bx t (K t h));have I:=On r (by omega) (fun t h=>x1 t (H t h));obtain⟨cm1,Z⟩:=qC l ([],[]);obtain⟨dm1,Y⟩:=qC r ([],[]);have ce:=uA l;have de:=uA r;have Z:(bw l).1.length<=l.length:=by show(l.foldl cntF ([],[])).1.length<=_;simpa using Z
  have Y:(bw r).1.length<=r.length:=by show(r.foldl cntF ([],[])).1.length<=_;simpa using Y
  have o:=WA (bw l).2 (bw r).2 (by omega) (by omega);generalize b2:bw l=c at*
  generalize b1:bw r=d at*
  obtain⟨c1,p⟩:=c;obtain⟨d1,d2⟩:=d;simp only at ce de Z Y o M I z⊢
  cases hbo:kM p d2 with
  |false=>
   have D:S.run [.bad]=S.bad:=by show S.ev .bad=_;unfold US.ev;rw[a2];rfl
   simp only[bh,if_false];rw[D]
   by_cases e:b8 p=true/\b8 d2=true/\(bJ p d2).length<=60
   ·rw[ay e]at o
    have h8:(8:Int)<(bJ p d2).length:=by unfold kM at hbo;rw[e.1,e.2.1]at hbo;simp at hbo;omega
    have h3:=C7 s S;rw[<-h3,hU];rw[hU]at C;generalize bJ p d2=W at*
    simp[nS,fb,fS,eZ,fV,fD,fw,fQ,fC,fo,fB,fN,fi,fU,fE,fT,eY,fy,fA,fz,fH,fc,hk,n3,n4,get_at,ji,splice,q,F,X,M,I,o,h8,dr C,gV C,gq C]
   ·rw[aD e]at o
    have h3:=C7 s S;rw[<-h3,hU];rw[hU]at C;simp[nS,fb,fS,eZ,fV,fD,fw,fQ,fC,fo,fB,fN,fi,fU,fE,fT,eY,fy,fA,fz,fH,fc,hk,n3,n4,get_at,ji,splice,q,F,X,M,I,o,dr C,gV C,gq C]
  |true=>
   have j:b8 p=true/\b8 d2=true/\(bJ p d2).length<=8:=by unfold kM at hbo;simpa[y9]using hbo
   rw[ay ⟨j.1,j.2.1,by omega⟩]at o;have lc:=dz j.1;have ld:=dz j.2.1;have h8:¬(8:Int)<(bJ p d2).length:=by omega
   have h1:=Rs .sub .sub .sub (by simp) (by simp) c1 d1 (by omega) (by omega);have J:=FC j.1 j.2.1 j.2.2;have h2:(c1++d1).length=p.length+d2.length:=by rw[cD];omega
   rw[<-h2]at J;have g:=QM f next (c1++d1) (bJ p d2) others u k Q.length Q rfl S C xv f yv xk yk (eK rec s f (c1++d1) (bJ p d2) others u next) j.2.2 (by omega) J (fun i h=>by unfold eK;rw[h];rfl) (fun i S' Q' hi a3 h4 hf R=>by
    unfold eK;rw[hf];simp only[if_true];have hwl:=(J (i+1)).len
    by_cases P:99<next+(bc (bJ p d2) (i+1) (bJ p d2).length).length-1
    ·rw[ay P]
     have D:S'.run [.bad]=S'.bad:=by show S'.ev .bad=_;unfold US.ev;rw[h4];rfl
     rw[D];exact qxy s f next (c1++d1) _ others u k S' Q' R (by omega) hn P
    ·rw[aD P]
     exact ZX s f next (c1++d1) _ others u k S' Q' _ R hs.len (J _) hn (by omega) (by omega) x3 (by simp)
      (z _ _ i S' Q' hbo rfl rfl hf ⟨_,a3⟩ h4 R (by omega)))
   obtain⟨rr,g⟩:=g;simp only[if_true];simp only[IG,iU,dy,ao,cM]at g;generalize US.run S _=S2 at*
   generalize bJ p d2=W at*
   simp[nS,fb,fS,eZ,fV,fD,fw,fQ,fC,fo,fB,fN,fi,fU,fE,fT,eY,fy,fA,fz,fH,fc,hk,n3,n4,get_at,ji,splice,q,F,X,M,I,o,h8,h1];rw[g];simp[nS,fb,fS,eZ,fV,fD,fw,fQ,fC,fo,fB,fN,fi,fU,fE,fT,eY,fy,fA,fz,fH,fc]
end
def US.st(S:US):US:={S with work:=S.work+1}
theorem jq{Q:List α}(h:k<Q.length)(v:α)(e:List α):(Q.set k v++e)[k]?=some v:=by rw[ed (by simpa using h),om h]
theorem lH{Q:List α}(h:k<Q.length)(v:α)(e:List α):∀h',(Q.set k v++e)[k]'h'=v:=dq (jq h v e)
theorem jv{Q:List α}(h:k<Q.length)(v w:α)(e:List α):(Q.set k v++e).set k w=Q.set k w++e:=by rw[List.set_append_left _ _ (by simpa using h),wI]
section
variable {s:aC} (u:aF) (next:Int) (k:Nat) (S:US) (Q Q':az)
theorem ns(s:aC)(S:US):uB s S=[.d (sg s),.d (dI S.told),aa S.work,au S.over]:=rfl
theorem qMI(i:Nat)(w:aF)(g:small w)(j:small u)(hi:Q[i]?=some (some [.d (binds .sub u)])):
 ak XV 264 [.d (binds .sub w),.ptr i 0] Q=some (au (jc w u),Q):=by
 rw[aL 264 BY rfl];have h:=qrv w u g.1 j.1 g.2 j.2;have e:=q_len hi;simp[BY,h,e,dq hi,hi]
theorem Vg(e:List aF)(i:Nat)(j:e.length<=1099511627776)(o:∀w,w∈e->small w)(l:small u)(hi:Q[i]?=some (some [.d (binds .sub u)])):
 ak XV 265 [.d (mU .sub e),.fn 264 [.ptr i 0]] Q=some (au (jb e u),Q):=by
 rw[aL 265 DI rfl];have g:=q_len hi;have h:=Sk e 264 [.ptr i 0] Q (fun w=>jc w u) j (by simp[AV.safe.safes,AV.safe,g]) (by simp) (by simp) (fun w hx=>qMI u Q i w (o w hx) l hi);simp[DI,h,g,jb];cases aR (fun i=>jc (gp e i) u) e.length 0<;>simp[bC]
theorem OB(l:bg)(e:Q[k]?=some (some (uB s S)))(g:S.over=true):
 ak XV 263 [.ptr k 0,.d (be l),.d (binds .sub u),aa next] Q=some (.d (.tup []),Q):=by
 rw[aL 263 ec rfl];have j:=q_len e;rw[ns,g]at e;have h:k<Q.length+1:=by omega
 simp[ec,fh,fJ,fG,g0,ip,gn,fx,fI,gD,g_,fa,gf,gU,g8,gS,gw,ge,iL,ix,gj,gI,gG,gK,gT,iy,gP,iG,j,h,dr e,gV e,splice]
theorem Yi(g:Q[k]?=some (some (uB s S)))(t:S.over=false)(J:S.told.length<=60)(D:∀w,w∈S.told->small w)(z:small u):
 ak XV 263 [.ptr k 0,.d (be []),.d (binds .sub u),aa next] Q=some (.d (.tup []),Q.set k (some (uB s (S.ev (.found u))))):=by
 rw[aL 263 ec rfl];have j:=q_len g;have e:=Vg u (Q++[some [.d (binds .sub u)]]) S.told Q.length (by omega) D z (by simp);have p:=Zf u z;have q:=KO S.told U u (by omega);have C:k<Q.length+1:=by omega
 have H:¬(Q.length+1<=k):=by omega
 have F:¬(Q.length+1<=Q.length):=by omega
 have I:S.ev (.found u)={S with told:=if jb S.told u then S.told else S.told++[u],over:=decide (60<(if jb S.told u then S.told else S.told++[u]).length)}:=by unfold US.ev;rw[t];rfl
 rw[I,ns];rw[ns,t]at g;simp only;cases hh:jb S.told u with
 |true=>
  rw[hh]at e;have l:decide (60<S.told.length)=false:=by simp;omega
  have h:¬(60:Int)<(S.told.length:Int):=by omega
  simp only[if_true,l];simp[ec,fh,fJ,fG,g0,ip,gn,fx,fI,gD,g_,fa,gf,gU,g8,gS,gw,ge,iL,ix,gj,gI,gG,gK,gT,iy,gP,iG,j,C,dr g,gV g,gq g,splice,e,h]
 |false=>
  rw[hh]at e;simp only[bh,if_false];have h:decide (60<(S.told++[u]).length)=decide ((60:Int)<(S.told.length:Int)+1):=by simp;omega
  have o:dI (S.told++[u])= .sl U (S.told.map (binds U)++[binds U u]):=by simp[dI]
  rw[h,o];simp[ec,fh,fJ,fG,g0,ip,gn,fx,fI,gD,g_,fa,gf,gU,g8,gS,gw,ge,iL,ix,gj,gI,gG,gK,gT,iy,gP,iG,j,C,dr g,gV g,gq g,splice,e,p,q,H,F,jq j,lH j,jv j]
theorem Qb(l:bg)(o:l≠[])(e:Q[k]?=some (some (uB s S)))(z:S.over=false)(D:400<S.work+1)(t:S.work<=1000):
 ak XV 263 [.ptr k 0,.d (be l),.d (binds .sub u),aa next] Q=some (.d (.tup []),Q.set k (some (uB s {S with work:=S.work+1,over:=true}))):=by
 rw[aL 263 ec rfl];have g:=q_len e;rw[ns]at e⊢
 rw[z]at e;have p:k<Q.length+1:=by omega
 have C:0<l.length:=xU.2 o;have h:(((l.length:Int))==0)=false:=dR (by omega);have j:IntKind.i64.wrap ((S.work:Int)+1)=((S.work+1:Nat):Int):=by rw[IntKind.wrap_i64];omega
 have q:(400:Int)<((S.work+1:Nat):Int):=by omega
 simp only;generalize ((S.work+1:Nat):Int)=m at*
 simp[ec,fh,fJ,fG,g0,ip,gn,fx,fI,gD,g_,fa,gf,gU,g8,gS,gw,ge,iL,ix,gj,gI,gG,gK,gT,iy,gP,iG,g,p,dr e,gV e,gq e,splice,h,j,q,jq g,lH g,jv g]
end
section
variable {α:Type} (Q:List α) (k:Nat) (v a b c w:α) (r:List α)
theorem Ly:(Q.set k v++a::r)[Q.length]?=some a:=Gy (by simp) a r
theorem Mw:(Q.set k v++a::b::r)[Q.length+1]?=some b:=Yv (by simp) a b r
theorem KU:(Q.set k v++a::b::c::r)[Q.length+1+1]?=some c:=Qv (by simp) a b c r
theorem X7:∀h,(Q.set k v++a::r)[Q.length]'h=a:=dq (Ly Q k v a r)
theorem Rk:∀h,(Q.set k v++a::b::r)[Q.length+1]'h=b:=dq (Mw Q k v a b r)
theorem Sn:∀h,(Q.set k v++a::b::c::r)[Q.length+1+1]'h=c:=dq (KU Q k v a b c r)
theorem Yf:(Q.set k v++a::r).set Q.length w=Q.set k v++w::r:=La (by simp) a w r
theorem Yk:(Q.set k v++a::b::r).set (Q.length+1) w=Q.set k v++a::w::r:=by rw[show Q.set k v++a::b::r=(Q.set k v++[a])++b::r by simp,show Q.length+1=(Q.set k v++[a]).length by simp];simp
theorem sS2:(Q.set k v++a::b::c::r).set (Q.length+1+1) w=Q.set k v++a::b::w::r:=by rw[show Q.set k v++a::b::c::r=(Q.set k v++[a,b])++c::r by simp,show Q.length+1+1=(Q.set k v++[a,b]).length by simp];simp
end
attribute [simp] Ly Mw KU X7 Rk Sn Yf Yk sS2
structure Eqs(s:aC)(u:aF)(S:US)(Q:az)(k:Nat)(a b x y:T):Prop where
 q:Q[k]?=some (some (uB s S))
 o:S.over=false
 w:S.work+1<=400
 hx:ak XV 135 [.d (sg s),.d (binds .sub u),.d (a.enc .sub)] []=some (.d (x.enc U),[])
 hy:ak XV 135 [.d (sg s),.d (binds .sub u),.d (b.enc .sub)] []=some (.d (y.enc U),[])
 bx:x.inner<=1099511627776
 b':y.inner<=1099511627776
def mV:VCode:=
 match ec.code with
 | .seq _ (.seq _ (.seq _ (.seq _ (.seq _ (.seq _ (.seq _ b))))))=>b
 |_=> .skip
def cX(u:aF)(x y:T):az:=[some [.d (binds .sub u)],some [aa x.f,aa x.v,.d (ao U x.kids)],some [aa y.f,aa y.v,.d (ao U y.kids)]]
def et(k N:Nat)(next:Int)(rest:bg):aI:=[(0,.ptr k 0),(3,aa next),(6,.ptr N 0),(8,.ptr (N+1) 0),(9,.ptr (N+1+1) 0),(10,.d (be rest))]
section
variable {s:aC} {u:aF} {S:US} {Q:az} {k:Nat} {a b x y:T}
theorem ua(h:Eqs s u S Q k a b x y)(rest:bg)(next:Int)(V:rest.length<=1099511627776):
 ak XV 263 [.ptr k 0,.d (be (⟨a,b⟩::rest)),.d (binds .sub u),aa next] Q=sE Q.length [] (aS XV (XV.lin 263) mV ⟨et k Q.length next rest,Q.set k (some (uB s S.st))++cX u x y⟩):=by
 rw[aL 263 ec rfl];obtain⟨e,o,Z,hx,hy,bx,b'⟩:=h;have g:=q_len e;have Y:S.st=⟨S.told,S.work+1,false⟩:=by rw[<-o];rfl
 obtain⟨z,av,p⟩:=a;obtain⟨q,bv,t⟩:=b;obtain⟨xf,xv,xk⟩:=x;obtain⟨yf,yv,yk⟩:=y;rw[Y,ns];rw[ns,o]at e;have D:k<Q.length+1:=by omega
 have J:k<Q.length+3:=by omega
 have P:¬(Q.length+1<=k):=by omega
 have C:¬(Q.length+3<=k):=by omega
 have H:¬(Q.length+1<=Q.length):=by omega
 have K:¬(Q.length+1<Q.length):=by omega
 have O:¬(Q.length+1+1<Q.length+1):=by omega
 have I:¬(Q.length+1+1<Q.length):=by omega
 have M:(0:Int)<=(rest.length:Int):=by omega
 have l:(((rest.length:Int)+1)==0)=false:=dR (by omega);have j:IntKind.i64.wrap ((S.work:Int)+1)=((S.work+1:Nat):Int):=by rw[IntKind.wrap_i64];omega
 have F:¬(400:Int)<((S.work+1:Nat):Int):=by omega
 have R:List.take rest.length (rest.map (Eqn.enc .sub .sub))=rest.map (Eqn.enc .sub .sub):=dC (by simp);have X:(Eqn.mk (.node z av p) (.node q bv t)).enc .sub .sub= .agg [.int .i64 z,.int .i64 av,ao .sub p,.int .i64 q,.int .i64 bv,ao .sub t]:=rfl;simp only;generalize ((S.work+1:Nat):Int)=m at*
 simp[-GA,ec,mV,cX,et,fh,fJ,fG,fx,fI,g_,fa,g,D,J,P,C,H,K,O,I,X,dr e,gV e,gq e,splice,M,l,j,F,R,cut,hx,hy,jq g,lH g,jv g]
theorem qBf(h:Eqs s u S Q k a b x y)(rest:bg)(next:Int)(Q':az)(l:rest.length<=1099511627776)(hc:(T.cmp x y==0)=true)(o:Q'.length=Q.length)
 (g:∀e,ak XV 263 [.ptr k 0,.d (be rest),.d (binds .sub u),aa next] (Q.set k (some (uB s S.st))++e)=some (.d (.tup []),Q'++e)):
 ak XV 263 [.ptr k 0,.d (be (⟨a,b⟩::rest)),.d (binds .sub u),aa next] Q=some (.d (.tup []),Q'):=by
 rw[ua h rest next l];obtain⟨C,F,J,hx,hy,bx,b'⟩:=h;have z:=q_len C;have j:=same_eq x y bx b';rw[hc]at j;have p:=g (cX u x y);obtain⟨I,xv,xk⟩:=x;obtain⟨H,yv,yk⟩:=y;generalize some (uB s S.st)=v at*
 have q:Q.length+1<Q.length+3:=by omega
 have t:k<Q.length+3:=by omega
 have D:∀e,(Q'++e).take Q.length=Q':=fun e=>by rw[<-o];simp
 simp only[cX,T.qaO,T.qbx,T.qav]at p;simp[mV,ec,fh,fJ,fG,g0,ip,gn,fx,fI,gD,g_,fa,gf,gU,g8,gS,gw,ge,iL,ix,gj,gI,gG,gK,gT,iy,gP,iG,et,cX,splice,j,p,z,q,t,D,o]
end
section
variable {s:aC} {u:aF} {S:US} {Q:az} {k:Nat} {a b x y:T}
theorem WI(h:Eqs s u S Q k a b x y)(rest:bg)(next:Int)(Q':az)(o:rest.length<=1099511627776)(hc:(T.cmp x y==0)=false)(t:x.f= -1)(p:Q'.length=Q.length)
 (j:∀e,ak XV 267 [.ptr k 0,aa x.v,.d (y.enc .sub),.d (be rest),.d (binds .sub u),aa next] (Q.set k (some (uB s S.st))++e)=some (.d (.tup []),Q'++e)):
 ak XV 263 [.ptr k 0,.d (be (⟨a,b⟩::rest)),.d (binds .sub u),aa next] Q=some (.d (.tup []),Q'):=by
 rw[ua h rest next o];obtain⟨H,J,K,hx,hy,bx,b'⟩:=h;have F:=q_len H;have g:=same_eq x y bx b';rw[hc]at g;have q:=j (cX u x y);have l:=iQ x;obtain⟨O,xv,xk⟩:=x;obtain⟨M,yv,yk⟩:=y;simp only[T.qaO]at t;subst t;generalize some (uB s S.st)=v at*
 have C:Q.length+1<Q.length+3:=by omega
 have D:k<Q.length+3:=by omega
 have z:Q.length+1+1<Q.length+3:=by omega
 have I:∀e,(Q'++e).take Q.length=Q':=fun e=>by rw[<-p];simp
 simp only[cX,T.qaO,T.qbx,T.qav,BEq.rfl]at q l;simp[mV,ec,fh,fJ,fG,g0,ip,gn,fx,fI,gD,g_,fa,gf,gU,g8,gS,gw,ge,iL,ix,gj,gI,gG,gK,gT,iy,gP,iG,et,cX,splice,g,l,q,F,C,D,z,I,p]
theorem S6(h:Eqs s u S Q k a b x y)(rest:bg)(next:Int)(Q':az)(q:rest.length<=1099511627776)(hc:(T.cmp x y==0)=false)(C:x.f≠-1)(l:y.f= -1)(t:Q'.length=Q.length)
 (j:∀e,ak XV 267 [.ptr k 0,aa y.v,.d (x.enc .sub),.d (be rest),.d (binds .sub u),aa next] (Q.set k (some (uB s S.st))++e)=some (.d (.tup []),Q'++e)):
 ak XV 263 [.ptr k 0,.d (be (⟨a,b⟩::rest)),.d (binds .sub u),aa next] Q=some (.d (.tup []),Q'):=by
 rw[ua h rest next q];obtain⟨K,P,R,hx,hy,bx,b'⟩:=h;have J:=q_len K;have g:=same_eq x y bx b';rw[hc]at g;have z:=j (cX u x y);have p:=iQ x;have o:=iQ y;obtain⟨M,xv,xk⟩:=x;obtain⟨V,yv,yk⟩:=y;simp only[T.qaO]at C l;subst l;have F:(M== -1)=false:=by simpa using C
 generalize some (uB s S.st)=v at*
 have H:Q.length+1<Q.length+3:=by omega
 have I:k<Q.length+3:=by omega
 have D:Q.length+1+1<Q.length+3:=by omega
 have O:∀e,(Q'++e).take Q.length=Q':=fun e=>by rw[<-t];simp
 simp only[cX,T.qaO,T.qbx,T.qav,BEq.rfl,F]at z p o;simp[mV,ec,fh,fJ,fG,g0,ip,gn,fx,fI,gD,g_,fa,gf,gU,g8,gS,gw,ge,iL,ix,gj,gI,gG,gK,gT,iy,gP,iG,et,cX,splice,g,p,o,z,J,H,I,D,O,t]
theorem PF(h:Eqs s u S Q k a b x y)(rest:bg)(next:Int)(F:rest.length<=1099511627776)(hs:SgOk s)(hc:(T.cmp x y==0)=false)(Z:x.f≠-1)(t:y.f≠-1)(q:x.f≠y.f\/bn s x.f=false/\x.kids.length≠y.kids.length):
 ak XV 263 [.ptr k 0,.d (be (⟨a,b⟩::rest)),.d (binds .sub u),aa next] Q=some (.d (.tup []),Q.set k (some (uB s S.st))):=by
 rw[ua h rest next F];obtain⟨hq,ho,hw,hx,hy,bx,b'⟩:=h;have p:=q_len hq;have g:=same_eq x y bx b';rw[hc]at g;have o:=iQ x;have l:=iQ y;have j:=vY s hs.len x.f;obtain⟨z,xv,xk⟩:=x;obtain⟨J,yv,yk⟩:=y;simp only[T.qaO,T.qav]at Z t q j;have hb:(z== -1)=false:=by simpa using Z
 have H:(J== -1)=false:=by simpa using t
 rw[ns];have P:Q.length+1<Q.length+3:=by omega
 have R:k<Q.length+3:=by omega
 have O:Q.length+1+1<Q.length+3:=by omega
 have V:¬(Q.length+3<=k):=by omega
 have M:¬(Q.length+3<=Q.length+1):=by omega
 have X:¬(Q.length+3<=Q.length+1+1):=by omega
 have Y:∀v e,(Q.set k v++e).take Q.length=Q.set k v:=fun v e=>by rw[List.take_left' (by simp)]
 simp only[T.qaO,T.qbx,T.qav,hb,H]at o l
 by_cases K:z=J
 ·obtain⟨C,h1⟩:bn s z=false/\xk.length≠yk.length:=by
   rcases q with q|q
   ·exact absurd K q
   ·exact q
  subst K;rw[C]at j;have I:((xk.length:Int) !=yk.length)=true:=by simp;omega
  simp[mV,ec,fh,fJ,fG,g0,ip,gn,fx,fI,gD,g_,fa,gf,gU,g8,gS,gw,ge,iL,ix,gj,gI,gG,gK,gT,iy,gP,iG,et,cX,splice,g,o,l,p,P,R,O,V,M,X,Y,j,I,jq p,lH p]
 ·have D:(z !=J)=true:=by simpa using K
  simp[mV,ec,fh,fJ,fG,g0,ip,gn,fx,fI,gD,g_,fa,gf,gU,g8,gS,gw,ge,iL,ix,gj,gI,gG,gK,gT,iy,gP,iG,et,cX,splice,g,o,l,p,P,R,O,V,M,X,Y,D,jq p,lH p]
theorem qvN(h:Eqs s u S Q k a b x y)(rest:bg)(next:Int)(Q':az)(t:rest.length<=1099511627776)(O:SgOk s)(hc:(T.cmp x y==0)=false)(H:x.f≠-1)(D:x.f=y.f)(q:bn s x.f=true)(F:Q'.length=Q.length)
 (l:∀e,ak XV 268 [.ptr k 0,.d (x.enc .sub),.d (y.enc .sub),.d (be rest),.d (binds .sub u),aa next] (Q.set k (some (uB s S.st))++e)=some (.d (.tup []),Q'++e)):
 ak XV 263 [.ptr k 0,.d (be (⟨a,b⟩::rest)),.d (binds .sub u),aa next] Q=some (.d (.tup []),Q'):=by
 rw[ua h rest next t];obtain⟨X,ho,hw,hx,hy,bx,b'⟩:=h;have z:=q_len X;have j:=same_eq x y bx b';rw[hc]at j;have C:=l (cX u x y);have p:=iQ x;have o:=iQ y;have g:=vY s O.len x.f;rw[q]at g;obtain⟨Y,xv,xk⟩:=x;obtain⟨yf,yv,yk⟩:=y;simp only[T.qaO]at H D g;subst D;have K:(Y== -1)=false:=by simpa using H
 rw[ns]at C⊢
 have M:Q.length+1<Q.length+3:=by omega
 have P:k<Q.length+3:=by omega
 have J:Q.length+1+1<Q.length+3:=by omega
 have R:¬(Q.length+3<=k):=by omega
 have I:¬(Q.length+3<=Q.length+1):=by omega
 have V:¬(Q.length+3<=Q.length+1+1):=by omega
 have Z:∀e,(Q'++e).take Q.length=Q':=fun e=>by rw[<-F];simp
 simp only[cX,T.qaO,T.qbx,T.qav,K]at C p o;simp[mV,ec,fh,fJ,fG,g0,ip,gn,fx,fI,gD,g_,fa,gf,gU,g8,gS,gw,ge,iL,ix,gj,gI,gG,gK,gT,iy,gP,iG,et,cX,splice,j,p,o,C,z,M,P,J,R,I,V,Z,F,g,jq z,lH z]
end
def bD(xk yk:ah):Nat->bg
 |0=>[]
 |i+1=>bD xk yk i++[⟨ai xk i,ai yk i⟩]
theorem o9(xk yk:ah):∀n,(bD xk yk n).length=n
 |0=>rfl
 |n+1=>by simp[bD,o9 xk yk n]
section
variable {s:aC} {u:aF} {S:US} {Q:az} {k:Nat} {a b x y:T}
theorem qBy(v:Option aH)(rest:bg)(next:Int)(hk:k<Q.length)(O:x.kids.length<=1099511627776)(J:x.kids.length=y.kids.length):
 bo XV (XV.lin 263) (Q.length+3) [0,3,6,8,9,10,11,87,88] vH ⟨et k Q.length next rest++[(11,.d (.sl U [])),(87,aa x.kids.length),(88,aa 0)],Q.set k v++cX u x y⟩=
  some (.exit 1,⟨et k Q.length next rest++[(11,.d (.sl U ((bD x.kids y.kids x.kids.length).map (Eqn.enc .sub .sub)))),(87,aa x.kids.length),(88,aa x.kids.length),(89,au false)],Q.set k v++cX u x y⟩):=by
 have H:(Q.set k v++cX u x y).length=Q.length+3:=by simp[cX]
 have D:(Q.set k v++cX u x y).take (Q.length+3)=Q.set k v++cX u x y:=dC (by omega);have g:k<Q.length+3:=by omega
 have o:Q.length+1<Q.length+3:=by omega
 have j:Q.length+1+1<Q.length+3:=by omega
 have h:=dS (X:=XV) (T:=XV.lin 263) (L:=Q.length+3) (live:=[0,3,6,8,9,10,11,87,88]) (b:=vH) (n:=x.kids.length) (γ:=Unit) (R:=fun _=>(.ret,⟨[],[]⟩)) (step:=fun _ _=> .inl ())
  (st:=fun(_:Unit) i=>⟨et k Q.length next rest++[(11,.d (.sl U ((bD x.kids y.kids i).map (Eqn.enc .sub .sub)))),(87,aa x.kids.length),(88,aa i)],Q.set k v++cX u x y⟩) 1 89 (fun _ _=>True) ()
  (fun _ _=>by simp[vH,fh,fJ,fG,g0,ip,gn,fx,fI,gD,g_,fa,gf,gU,g8,gS,gw,ge,iL,ix,gj,gI,gG,gK,gT,iy,gP,iG,et])
  (fun _ i hi _=>by
   have l:=aV (n:=i) (by omega);have e:i<y.kids.length:=by omega
   have F:=o9 x.kids y.kids i;have t:=Bb (bD x.kids y.kids i) .sub .sub ⟨ai x.kids i,ai y.kids i⟩ (by omega);have K:bD x.kids y.kids (i+1)=bD x.kids y.kids i++[⟨ai x.kids i,ai y.kids i⟩]:=rfl;have z:=a5 hi;have C:=a5 e;refine⟨⟨⟨et k Q.length next rest++[(11,.d (.sl U ((bD x.kids y.kids (i+1)).map (Eqn.enc .sub .sub)))),(87,aa x.kids.length),(88,aa (i+1:Nat))],Q.set k v++cX u x y⟩,?_,by simp[et,aA,aB,D,H,g,o,j]⟩,fun _ _=>trivial⟩;rw[K];generalize (bD x.kids y.kids i++[Eqn.mk (ai x.kids i) (ai y.kids i)]).map (Eqn.enc .sub .sub)=L2 at*
   generalize (bD x.kids y.kids i).map (Eqn.enc .sub .sub)=L1 at*
   generalize ai x.kids i=p at*
   generalize ai y.kids i=q at*
   obtain⟨xf,xv,xk⟩:=x;obtain⟨yf,yv,yk⟩:=y;obtain⟨pf,Z,pk⟩:=p;obtain⟨Y,V,P⟩:=q;simp only[T.qav,Eqn.enc,T.qaO,T.qbx]at z C hi e t⊢
   have I:¬(Q.length+3<=Q.length+1):=by omega
   have M:¬(Q.length+3<=Q.length+1+1):=by omega
   simp[vH,fh,fJ,fG,g0,ip,gn,fx,fI,gD,g_,fa,gf,gU,g8,gS,gw,ge,iL,ix,gj,gI,gG,gK,gT,iy,gP,iG,et,cX,hi,e,l,cut,z,C,t,g,o,j,I,M,splice])
  trivial (by simp[et,aA,aB,D,H,g,o,j,bD])
 rw[dv]at h;exact h
theorem qvM(h:Eqs s u S Q k a b x y)(rest:bg)(next:Int)(Q':az)(Z:rest.length<=1000000000)(Y:SgOk s)(hc:(T.cmp x y==0)=false)(P:x.f≠-1)(M:x.f=y.f)(D:bn s x.f=false)(l:x.kids.length=y.kids.length)(hl:x.kids.length<=1000000000)(O:Q'.length=Q.length)
 (q:∀e,ak XV 263 [.ptr k 0,.d (be (bD x.kids y.kids x.kids.length++rest)),.d (binds .sub u),aa next] (Q.set k (some (uB s S.st))++e)=some (.d (.tup []),Q'++e)):
 ak XV 263 [.ptr k 0,.d (be (⟨a,b⟩::rest)),.d (binds .sub u),aa next] Q=some (.d (.tup []),Q'):=by
 rw[ua h rest next (by omega)];obtain⟨hq,ho,hw,hx,hy,bx,b'⟩:=h;have z:=q_len hq;have o:=same_eq x y bx b';rw[hc]at o;have F:=q (cX u x y);have C:=iQ x;have t:=iQ y;have g:=vY s Y.len x.f;rw[D]at g;have j:=qBy (u:=u) (x:=x) (y:=y) (some (uB s S.st)) rest next z (by omega) l;have V:=o9 x.kids y.kids x.kids.length;have H:=G5 (bD x.kids y.kids x.kids.length) rest .sub .sub (by omega);obtain⟨xf,xv,xk⟩:=x;obtain⟨yf,yv,yk⟩:=y;simp only[T.qaO,T.qav]at P M g l;subst M;have X:(xf== -1)=false:=by simpa using P
 rw[ns]at F j⊢
 have J:Q.length+1<Q.length+3:=by omega
 have K:k<Q.length+3:=by omega
 have I:Q.length+1+1<Q.length+3:=by omega
 have m4:¬(Q.length+3<=k):=by omega
 have R:¬(Q.length+3<=Q.length+1):=by omega
 have m6:¬(Q.length+3<=Q.length+1+1):=by omega
 have hT:∀e,(Q'++e).take Q.length=Q':=fun e=>by rw[<-O];simp
 have m7:¬(Q.length+3<=Q.length):=by omega
 have p:((xk.length:Int) !=yk.length)=false:=by rw[l];simp
 simp only[cX,et,T.qaO,T.qbx,T.qav,X,Zj,cM,be,c_,cp]at F C t j H;simp[mV,ec,fh,fJ,fG,g0,ip,gn,fx,fI,gD,g_,fa,gf,gU,g8,gS,gw,ge,iL,ix,gj,gI,gG,gK,gT,iy,gP,iG,et,cX,splice,o,C,t,z,J,K,I,m4,R,m6,g,p,jq z,lH z];rw[j];simp[ec,fh,fJ,fG,g0,ip,gn,fx,fI,gD,g_,fa,gf,gU,g8,gS,gw,ge,iL,ix,gj,gI,gG,gK,gT,iy,gP,iG,z,J,K,I,m7,H,F,hT,O,splice]
end
def n0(rec:bg->aF->Int->ee)(s:aC)(v:Int)(t:T)(rest:bg)(u:aF)(next:Int):ee:=if 0<cnt t v then []else if eA s (bB s u v t)then rec rest (bB s u v t) next else [.bad]
def sA(rec:bg->aF->Int->ee)(s:aC)(x y:T)(rest:bg)(u:aF)(next:Int):ee:=
 if(T.cmp x y==0)=true then rec rest u next
 else if x.f= -1 then n0 rec s x.v y rest u next
 else if y.f= -1 then n0 rec s y.v x rest u next
 else if x.f≠y.f then []
 else if bn s x.f=true then uv rec s x.f x.kids y.kids rest u next
 else rec (bD x.kids y.kids x.kids.length++rest) u next
def cH(s:aC):Nat->bg->aF->Int->ee
 |0=>fun _ _ _=>[]
 |n+1=>fun l u next=>match l with
  | []=>[.found u]
  |e::rest=> .step::sA (cH s n) s (aT s u e.a) (aT s u e.b) rest u next
structure Safe(s:aC)(G:Nat->bg->aF->Int->Prop):Prop where
 len:∀{n l u next},G n l u next->l.length<=10000000/\small u/\u.length<=1000/\0<=next/\next<=1000
 a:∀{n a b rest u next},G n (⟨a,b⟩::rest) u next->a.inner<=1099511627776/\(bM u a).inner<=1099511627776/\(aT s u a).inner<=1000000000
 b:∀{n a b rest u next},G n (⟨a,b⟩::rest) u next->b.inner<=1099511627776/\(bM u b).inner<=1099511627776/\(aT s u b).inner<=1000000000
 arity:∀{n a b rest u next},G n (⟨a,b⟩::rest) u next->(aT s u a).f≠-1->(aT s u a).f=(aT s u b).f->bn s (aT s u a).f=false->(aT s u a).kids.length=(aT s u b).kids.length
 same:∀{n a b rest u next},G (n+1) (⟨a,b⟩::rest) u next->G n rest u next
 bindx:∀{n a b rest u next},G (n+1) (⟨a,b⟩::rest) u next->(aT s u a).f= -1->¬0<cnt (aT s u b) (aT s u a).v->SubFit s u (aT s u a).v (aT s u b)/\(eA s (bB s u (aT s u a).v (aT s u b))=true->G n rest (bB s u (aT s u a).v (aT s u b)) next)
 bindy:∀{n a b rest u next},G (n+1) (⟨a,b⟩::rest) u next->(aT s u a).f≠-1->(aT s u b).f= -1->¬0<cnt (aT s u a) (aT s u b).v->SubFit s u (aT s u b).v (aT s u a)/\(eA s (bB s u (aT s u b).v (aT s u a))=true->G n rest (bB s u (aT s u b).v (aT s u a)) next)
 pairs:∀{n a b rest u next},G (n+1) (⟨a,b⟩::rest) u next->(aT s u a).f≠-1->(aT s u a).f=(aT s u b).f->bn s (aT s u a).f=false->G n (bD (aT s u a).kids (aT s u b).kids (aT s u a).kids.length++rest) u next
 choose:∀{n a b rest u next} (all:ah) (ways:List ax) (m:Nat),G (n+1) (⟨a,b⟩::rest) u next->(aT s u a).f=(aT s u b).f->bn s (aT s u a).f=true->
  kM (bw (bV (aT s u a).kids (aT s u b).kids).1).2 (bw (bV (aT s u a).kids (aT s u b).kids).2).2=true->all=(bw (bV (aT s u a).kids (aT s u b).kids).1).1++(bw (bV (aT s u a).kids (aT s u b).kids).2).1->ways=bJ (bw (bV (aT s u a).kids (aT s u b).kids).1).2 (bw (bV (aT s u a).kids (aT s u b).kids).2).2->
  hH all ways m=true->next+(bc ways (m+1) ways.length).length-1<=99->G n (db s (aT s u a).f all (bc ways (m+1) ways.length) next all.length++rest) u (next+(bc ways (m+1) ways.length).length)
structure US.Ok(S:US):Prop where
 t:∀w,w∈S.told->small w
 l:S.told.length<=61
 o:S.over=false->S.told.length<=60/\S.work<=400
theorem US.qAO(S:US)(e:UEv):S.work<=(S.ev e).work/\(∀w,w∈(S.ev e).told->w∈S.told\/e= .found w)/\(S.over=true->(S.ev e).over=true):=by
 unfold US.ev;split
 ·rename_i h;exact⟨bN _,fun w h=> .inl h,fun _=>h⟩
 ·rename_i h
  cases e with
  |step=>exact⟨cf _,fun w h=> .inl h,fun h'=>absurd h' h⟩
  |bad=>exact⟨bN _,fun w h=> .inl h,fun _=>rfl⟩
  |found u=>
   refine⟨bN _,fun w d=> ?_,fun h'=>absurd h' h⟩;simp only at d;split at d
   ·exact .inl d
   ·rcases bu.1 d with d|d
    ·exact .inl d
    ·rw[fF.1 d];exact .inr rfl
theorem US.qnN:∀(es:ee) (S:US),S.work<=(S.run es).work/\(∀w,w∈(S.run es).told->w∈S.told\/UEv.found w∈es)/\(S.over=true->(S.run es).over=true)
 | [],S=>⟨bN _,fun w h=> .inl h,fun h=>h⟩
 |e::es,S=>by
  obtain⟨d,g,l⟩:=US.qAO S e;obtain⟨q,j,p⟩:=US.qnN es (S.ev e);rw[US.qgI];refine⟨eo d q,fun w o=> ?_,fun h=>p (l h)⟩;rcases j w o with h|h
  ·rcases g w h with h|h
   ·exact .inl h
   ·exact .inr (by simp[h])
  ·exact .inr (by simp[h])
theorem US.Ok.ev{S:US}(h:S.Ok)(e:UEv)(p:∀w,e= .found w->small w):(S.ev e).Ok:=by
 refine⟨fun w q=> ?_,?_,?_⟩
 ·rcases(US.qAO S e).2.1 w q with g|g
  ·exact h.t w g
  ·exact p w g
 ·unfold US.ev
  split
  ·exact h.l
  ·rename_i j
   have:=(h.o (by simpa using j)).1;cases e with
   |step=>exact h.l
   |bad=>exact h.l
   |found u=>simp only;split<;>simp<;>omega
 ·unfold US.ev
  split
  ·exact h.o
  ·rename_i j
   obtain⟨g,z⟩:=h.o (by simpa using j);cases e with
   |step=>intro d;simp at d;exact⟨g,by simp only;omega⟩
   |bad=>intro d;simp[US.bad]at d
   |found u=>intro d;simp at d;exact⟨by simp only;split at d<;>simp_all,z⟩
theorem US.Ok.run:∀{es:ee} {S:US},S.Ok->(∀w,UEv.found w∈es->small w)->(S.run es).Ok
 | [],S,h,_=>h
 |e::es,S,h,g=>by rw[US.qgI];exact US.Ok.run (h.ev e fun w d=>g w (by simp[d])) (fun w d=>g w (by simp[d]))
variable{G:Nat->bg->aF->Int->Prop}
theorem KI(g:Safe s G):∀(n:Nat) (l:bg) (u:aF) (next:Int),G n l u next->∀w,UEv.found w∈cH s n l u next->∃m nx,G m [] w nx
 |0,l,u,next,h,w,d=>by simp[cH]at d
 |n+1,[],u,next,h,w,d=>by simp[cH]at d;subst d;exact⟨_,_,h⟩
 |n+1,⟨a,b⟩::rest,u,next,h,w,d=>by
  have o:=KI g n;simp only[cH,cC,reduceCtorEq,false_or]at d;unfold sA at d;split at d
  ·exact o _ _ _ (g.same h) w d
  ·split at d
   ·rename_i t
    unfold n0 at d;split at d
    ·simp at d
    ·rename_i hc
     split at d
     ·rename_i p
      exact o _ _ _ ((g.bindx h t hc).2 p) w d
     ·simp at d
   ·rename_i t
    split at d
    ·rename_i z
     unfold n0 at d;split at d
     ·simp at d
     ·rename_i hc
      split at d
      ·rename_i p
       exact o _ _ _ ((g.bindy h t z hc).2 p) w d
      ·simp at d
    ·split at d
     ·simp at d
     ·rename_i q
      have q:(aT s u a).f=(aT s u b).f:=by simpa using q
      split at d
      ·rename_i e
       unfold uv at d;split at d
       ·simp at d
       ·split at d
        ·rename_i C
         obtain⟨m,_,j⟩:=tX.1 d;unfold eK at j;split at j
         ·rename_i p
          split at j
          ·simp at j
          ·rename_i D
           exact o _ _ _ (g.choose _ _ m h q e C rfl rfl p (by omega)) w j
         ·simp at j
        ·simp at d
      ·rename_i e
       exact o _ _ _ (g.pairs h t q (by simpa using e)) w d
theorem O3(d:Safe s G)(n:Nat)(l:bg)(u:aF)(next:Int)(h:G n l u next)(w:aF)(e:UEv.found w∈cH s n l u next):small w:=by obtain⟨m,nx,h⟩:=KI d n l u next h w e;exact(d.len h).2.1
end Go.Proofs.YtpcoohnjllclnaaGreat.VS

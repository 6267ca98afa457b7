/- Contracts of the program's functions on the evaluator without names, and plain lemmas: part 2. -/
import Derived.Test.YtfiakfiocdfpbaaXP1
set_option linter.unusedSimpArgs false
set_option linter.unusedVariables false
namespace Go.Proofs.Ytfiakfiocdfpbaa.VS
def qcB:List SymL:=[⟨⟨#[116,116]⟩,0,false⟩,⟨⟨#[97]⟩,0,false⟩,⟨⟨#[98]⟩,0,false⟩,⟨⟨#[103]⟩,1,false⟩,⟨⟨#[104]⟩,2,false⟩,⟨⟨#[102]⟩,2,true⟩,⟨⟨#[107]⟩,2,true⟩]
theorem qfY:qai XV 155 [] []=some (.d (.sl U (qcB.map SymL.enc)),[]):=by
 rw[qaE XV _ _ _ qBM rfl qsp rfl];simp[qBM,qyH,qyG,qcB,qay,List.replicate,splice]
structure SigD(l:List SymL):Prop where
 len:l.length<=9
 sym:∀s,s∈l->s.name.size<=9/\-1<=s.arity/\s.arity<=4
theorem SigD.ok{l:List SymL}(h:SigD l):∀s,s∈l->s.ok:=fun s hs=>by
 obtain⟨h1,h2,h3⟩:=h.sym s hs;exact⟨by unfold maxLen;omega,by omega,by omega⟩
theorem SigD.nm{l:List SymL}(h:SigD l)(n:Nat)(hn:9<=n):∀i,i<l.length->(qjv l i).name.size<=n:=fun i hi=>by
 have:=(h.sym _ (qsM hi)).1;omega
theorem qAL(x y:Int)(r:DV):(DV.int .u8 x).like r=(DV.int .u8 y).like r:=by cases r<;>rfl
theorem qxt(bs:List Int):(bs.map (DV.int .u8)).flatMap DV.cells=bs.map (DV.int .u8):=by
 induction bs with
 |nil=>rfl
 |cons b r ih=>simp only[List.map_cons,List.flatMap_cons,ih,DV.cells,List.singleton_append]
theorem qgV(rs:List DV):∀bs:List Int,DV.xrests rs (bs.map (.int .u8))=true
 | []=>by simp[DV.xrests]
 |b::r=>by simp[DV.xrests,DV.xrest,qgV rs r]
theorem qnx(rs:List DV)(h:rs.all (fun r=> !(DV.int .u8 0).like r)=true)(bs:List Int):DV.xrest rs (.sl .sub (bs.map (.int .u8)))=true:=by
 simp only[DV.xrest,qgV,Bool.and_true,qxt];cases bs with
 |nil=>rfl
 |cons b r=>
  have:(rs.all fun r=> !(DV.int .u8 b).like r)=true:=by
   rw[<-h];congr 1;funext r;rw[qAL b 0]
  simp[this]
theorem qe5(rs:List DV)(h:rs.all (fun r=> !(DV.int .u8 0).like r)=true)(bs:List Int)(pos st:Int):qbn rs (qaZ bs pos st)=true:=by
 simp only[qbn,qaZ,List.all_cons,List.all_nil,AV.xrest];rw[qnx rs h bs];simp only[DV.xrest,Bool.and_self]
@[simp] theorem qDx(s:SymL):qa6 s.enc=true:=rfl
@[simp] theorem qCe(rs:List DV)(s:SymL):DV.xrest rs s.enc=true:=by
 show DV.xrest rs (.agg [.str s.name,.int .i64 s.arity,.bool s.ac])=true;simp only[DV.xrest,DV.xrests,Bool.and_self]
theorem qcl(bs:List Int)(pos st:Int):AV.clrs (qaZ bs pos st)=qaZ bs pos st:=by simp[qaZ]
def sc7:List AV:=[.d (.str ⟨#[116,116]⟩),.d (.int .i64 0),.d (.bool false),.d (.str ⟨#[97]⟩),.d (.int .i64 0),.d (.bool false),.d (.str ⟨#[98]⟩),.d (.int .i64 0),.d (.bool false),.d (.str ⟨#[103]⟩),.d (.int .i64 1),.d (.bool false),.d (.str ⟨#[104]⟩),.d (.int .i64 2),.d (.bool false),.d (.str ⟨#[102]⟩),.d (.int .i64 2),.d (.bool true),.d (.str ⟨#[107]⟩),.d (.int .i64 2),.d (.bool true)]
theorem qkJ{l:List SymL}(h:SigD l)(i:Nat)(s:SymL)(hs:s.name.size<=9/\-1<=s.arity/\s.arity<=4):SigD (l.set i s):=
 ⟨by rw[List.length_set];exact h.len,fun x hx=>by
  rcases List.mem_or_eq_of_mem_set hx with h1|h1
  ·exact h.sym x h1
  ·subst h1;exact hs⟩
theorem qfK:SigD qcB:=by
 refine⟨by decide,fun s hs=> ?_⟩;simp only[qcB,List.mem_cons,List.not_mem_nil,or_false]at hs;rcases hs with rfl|rfl|rfl|rfl|rfl|rfl|rfl<;>exact⟨by decide,by decide,by decide⟩
theorem quL(bs:List Int)(hl:bs.length<=1099511627776)(pos st:Int)(hp:0<=pos/\pos<=bs.length):
 ∃(l:List SymL) (g:Tag) (pos' st':Int),SigD l/\(0<=pos'/\pos'<=bs.length)/\qai XV 195 [.ptr 0 0] [some (qaZ bs pos st)]=some (.d (.sl g (l.map SymL.enc)),[some (qaZ bs pos' st')]):=by
 have h0:qbO bs 0 [some (qaZ bs pos st)]:=⟨pos,st,hp,rfl⟩;obtain⟨r,B1,hr,⟨pos1,st1,hp1,rfl⟩,hc⟩:=qbw bs hl _ 0 h0 10 (by omega) (by omega);simp only[List.set_cons_zero]at hc;rw[qrP XV _ _ _ qrI rfl qsa rfl (m:=1) rfl rfl];simp only[qgP,qjc,qcl];have hsg:=qfY;have hs1:∀rs,rs.all (fun r=> !(DV.int .u8 0).like r)=true->qbn rs (qaZ bs pos1 st1)=true:=fun rs h=>qe5 rs h bs pos1 st1
 have h1:∀C,qbO bs 0 [some (qaZ bs pos1 st1),some C]:=fun C=>⟨pos1,st1,hp1,rfl⟩
 have h2:qbO bs 0 [some (qaZ bs pos1 st1)]:=⟨pos1,st1,hp1,rfl⟩
 by_cases c0:r=0
 ·subst c0
  obtain⟨j,hj,B2,⟨pos2,st2,hp2,rfl⟩,hc2⟩:=qmP bs hl _ 0 (h1 sc7) [⟨#[]⟩,⟨#[65]⟩,⟨#[116,116]⟩,⟨#[97,98,99,100,101,102,103,104,105]⟩,⟨#[49,97]⟩,⟨#[97,49]⟩] (by simp) (by simp);have hall:∀x:ByteArray,x∈([⟨#[]⟩,⟨#[65]⟩,⟨#[116,116]⟩,⟨#[97,98,99,100,101,102,103,104,105]⟩,⟨#[49,97]⟩,⟨#[97,49]⟩]:List ByteArray)->x.size<=9:=fun x hx=>by
   simp only[List.mem_cons,List.not_mem_nil,or_false]at hx;rcases hx with rfl|rfl|rfl|rfl|rfl|rfl<;>decide
  have hx:=hall _ (List.getElem_mem hj);generalize ([⟨#[]⟩,⟨#[65]⟩,⟨#[116,116]⟩,⟨#[97,98,99,100,101,102,103,104,105]⟩,⟨#[49,97]⟩,⟨#[97,49]⟩]:List ByteArray)[j]=nm at hc2 hx;refine⟨qcB.set 1 ⟨nm,0,false⟩,.sub,pos2,st2,qkJ qfK 1 _ ⟨hx,by simp,by simp⟩,hp2,?_⟩;simp only[qcB,sc7,List.map_cons,List.map_nil,List.set_cons_zero]at hsg hc2⊢
  simp[qrI,qhb,qha,qg9,qg8,qg7,qg6,qg5,qg4,qg3,qg2,qeF,qeE,qeD,qeC,qeB,qeA,hc,hsg,hs1,DV.like,hc2,qay,List.replicate,splice,qdT,qac,qan,qaf,qch,AV.frz,AV.frzC,qdA,chunks,cut,qaa,qdq]
 by_cases c1:r=1
 ·subst c1
  obtain⟨j,hj,B2,⟨pos2,st2,hp2,rfl⟩,hc2⟩:=qcX bs hl _ 0 (h1 sc7) [-1,3,4] (by simp) (by simp);have hall:∀x:Int,x∈([-1,3,4]:List Int)->-1<=x/\x<=4:=fun x hx=>by
   simp only[List.mem_cons,List.not_mem_nil,or_false]at hx;omega
  have hx:=hall _ (List.getElem_mem hj);generalize ([-1,3,4]:List Int)[j]=k at hc2 hx;refine⟨qcB.set 2 ⟨⟨#[98]⟩,k,false⟩,.sub,pos2,st2,qkJ qfK 2 _ ⟨by simp[ByteArray.size],hx⟩,hp2,?_⟩;simp only[qcB,sc7,List.map_cons,List.map_nil,List.set_cons_zero]at hsg hc2⊢
  simp[qrI,qhb,qha,qg9,qg8,qg7,qg6,qg5,qg4,qg3,qg2,qeF,qeE,qeD,qeC,qeB,qeA,hc,hsg,hs1,DV.like,hc2,qay,List.replicate,splice,qdT,qac,qan,qaf,qch,AV.frz,AV.frzC,qdA,chunks,cut,qaa,qdq]
 by_cases c2:r=2
 ·subst c2
  refine⟨qcB.set 3 ⟨⟨#[103]⟩,1,true⟩,.sub,pos1,st1,qkJ qfK 3 _ ⟨by decide,by simp,by simp⟩,hp1,?_⟩;simp only[qcB,List.map_cons,List.map_nil]at hsg⊢
  simp[qrI,qhb,qha,qg9,qg8,qg7,qg6,qg5,qg4,qg3,qg2,qeF,qeE,qeD,qeC,qeB,qeA,hc,hsg,hs1,DV.like,qay,List.replicate,splice,qdT,qac,qan,qaf,qch,AV.frz,AV.frzC,qdA,chunks,cut,qaa,qdq]
 by_cases c3:r=3
 ·subst c3
  refine⟨qcB.drop 1,.sub,pos1,st1,⟨by decide,fun s hs=>qfK.sym s (List.mem_of_mem_drop hs)⟩,hp1,?_⟩;simp only[qcB,List.map_cons,List.map_nil]at hsg⊢
  simp[qrI,qhb,qha,qg9,qg8,qg7,qg6,qg5,qg4,qg3,qg2,qeF,qeE,qeD,qeC,qeB,qeA,hc,hsg]
 by_cases c4:r=4
 ·subst c4
  obtain⟨r2,B2,hr2,⟨pos2,st2,hp2,rfl⟩,hc2⟩:=qbw bs hl _ 0 h2 4 (by omega) (by omega);refine⟨qcB.take r2.toNat,.sub,pos2,st2,⟨by simp[qcB];omega,fun s hs=>qfK.sym s (List.mem_of_mem_take hs)⟩,hp2,?_⟩;simp only[List.set_cons_zero]at hc2;have hle:r2.toNat<=7:=by omega
  rw[List.map_take];simp only[qcB,List.map_cons,List.map_nil]at hsg⊢
  simp[qrI,qhb,qha,qg9,qg8,qg7,qg6,qg5,qg4,qg3,qg2,qeF,qeE,qeD,qeC,qeB,qeA,hc,hsg,hc2,hr2.1,hle]
 by_cases c5:r=5
 ·subst c5
  obtain⟨j,hj,B2,⟨pos2,st2,hp2,rfl⟩,hc2⟩:=qmP bs hl _ 0 h2 [⟨#[120,50]⟩,⟨#[120,49]⟩] (by simp) (by simp);have hall:∀x:ByteArray,x∈([⟨#[120,50]⟩,⟨#[120,49]⟩]:List ByteArray)->x.size<=9:=fun x hx=>by
   simp only[List.mem_cons,List.not_mem_nil,or_false]at hx;rcases hx with rfl|rfl<;>decide
  have hx:=hall _ (List.getElem_mem hj);generalize ([⟨#[120,50]⟩,⟨#[120,49]⟩]:List ByteArray)[j]=nm at hc2 hx;refine⟨qcB++[⟨⟨#[120,49]⟩,0,false⟩,⟨nm,0,false⟩],U,pos2,st2,⟨by simp[qcB],fun s hs=> ?_⟩,hp2,?_⟩
  ·rcases List.mem_append.1 hs with h|h
   ·exact qfK.sym s h
   ·simp only[List.mem_cons,List.not_mem_nil,or_false]at h
    rcases h with rfl|rfl
    ·exact⟨by decide,by simp,by simp⟩
    ·exact⟨hx,by simp,by simp⟩
  ·simp only[List.set_cons_zero]at hc2
   simp only[qcB,List.map_cons,List.map_nil]at hsg hc2⊢
   simp[qrI,qhb,qha,qg9,qg8,qg7,qg6,qg5,qg4,qg3,qg2,qeF,qeE,qeD,qeC,qeB,qeA,hc,hsg,hc2,qay,List.replicate,splice,qdT,qaa,qdq,qbc]
 ·refine⟨qcB,.sub,pos1,st1,qfK,hp1,?_⟩
  simp only[qcB,List.map_cons,List.map_nil]at hsg⊢
  have b:∀k:Int,r≠k->(r==k)=false:=fun k h=>by simpa using h
  simp[qrI,qhb,qha,qg9,qg8,qg7,qg6,qg5,qg4,qg3,qg2,qeF,qeE,qeD,qeC,qeB,qeA,hc,hsg,b _ c0,b _ c1,b _ c2,b _ c3,b _ c4,b _ c5,qaf,qch,AV.frz,AV.frzC]
end Go.Proofs.Ytfiakfiocdfpbaa.VS
namespace Go.Proofs.Ytfiakfiocdfpbaa.VS
mutual
def T.rng:T->Prop
 | .node _ v ks=>(-9223372036854775808<=v/\v<=9223372036854775807)/\T.rngs ks
def T.rngs:List T->Prop
 | []=>True
 |t::r=>t.rng/\T.rngs r
end
theorem T.qfk:∀l:List T,T.rngs l↔∀t,t∈l->t.rng
 | []=>by simp[T.rngs]
 |t::r=>by simp[T.rngs,T.qfk r]
end Go.Proofs.Ytfiakfiocdfpbaa.VS
namespace Go.Proofs.Ytfiakfiocdfpbaa.VS
theorem qcv{bs:List Int}{q:Nat}{B R B':qak}(hq:q<B.length)(h:qb7 bs q (B++R) B'):∃B1,qb7 bs q B B1/\B1.length=B.length/\B'=B1++R:=by
 obtain⟨pos,st,hp,rfl⟩:=h;exact⟨B.set q (some (qaZ bs pos st)),⟨pos,st,hp,rfl⟩,by simp,by rw[List.set_append_left _ _ hq]⟩
theorem qbO.app{bs:List Int}{q:Nat}{B:qak}(h:qbO bs q B)(R:qak):qbO bs q (B++R):=by
 have hq:=h.lt;obtain⟨pos,st,hp,hb⟩:=h;exact⟨pos,st,hp,by have:=qda hb;simp[qaU,List.getElem?_append_left hq,this]⟩
theorem qi4(A:qak)(c:Option (List AV))(L:Nat)(h:A.length=L):(A++[c])[L]?=some c:=by subst h;simp
theorem qkh(A:qak)(c c':Option (List AV))(L:Nat)(h:A.length=L):(A++[c]).set L c'=A++[c']:=by subst h;simp
theorem qvw(A:qak)(c:Option (List AV))(L:Nat)(h:A.length=L):(A++[c]).take L=A:=by subst h;simp
theorem qiB(bs:List Int)(hl:bs.length<=1099511627776)(B:qak)(i:Nat)(h:qbO bs i B)(n:Int)(hn:0<n)(hn2:n<=256):∃(b:Bool) (B':qak),qb7 bs i B B'/\qai XV 162 [.ptr i 0,.d (.int .i64 n)] B=some (.d (.bool b),B'):=by
 obtain⟨r,B',hr,hT,hc⟩:=qbw bs hl B i h n hn hn2;have hi:=h.lt;have hlen:=hT.len;have htake:List.take B.length B'=B':=List.take_of_length_le (by omega);refine⟨r==0,B',hT,?_⟩;rw[qaE XV _ _ _ qBH rfl qsk rfl];simp[qBH,qyt,qys,hc,htake,hi]
theorem qpH(f:Int)(ks:List T):qai XV 164 [.d (.int .i64 f),.d (qau .sub ks)] []=some (.d ((T.node f 0 ks).enc .sub),[]):=by
 rw[qaE XV _ _ _ qyb rfl qlP rfl];simp[qyb,qt9,qt8,splice,qaa,qae,qac,qan,qad]
theorem qsE{n:Nat}(h:n<9223372036854775808):IntKind.i64.wrap (((n+1:Nat):Int)-1)=n:=by
 rw[show((n+1:Nat):Int)-1=n by omega];exact wrap_i64 (by omega) (by omega)
def qiP:VCode:=(.seq (.seq (.region false 0 [0,2,6,20] qmn) (.cond (.t 20) (.seq (.region false 0 [6] qtZ) .ret) .skip)) (.seq (.region false 0 [6] qpi) .ret))
def qou:VCode:=(.seq (.region false 0 [0,1,2,6,7] qph) (.seq (.region false 0 [0,1,2,6,7,8] qpg) (.seq (.seq (.region false 0 [0,1,2,6,7,8,39] qpf) (.cond (.t 39) (.region false 0 [6,7,8] qpe) .skip)) (.seq (.region false 0 [6] qpd) .ret))))
def qgR:VCode:= .seq (.seq (.region false 0 [0,1,2,6,14] qj6) (.cond (.t 14) qiP .skip)) qou
theorem qzT:qBF=⟨3,[.cell 6 true 3],.seq (.region false 1 [0,1,2,6] qt0) qgR⟩:=rfl
theorem qpU(bs:List Int)(hl:bs.length<=1099511627776)(deep vars:Int)(hv:vars<=256)(B:qak)(q:Nat)(h:qbO bs q B)(L:Nat)(hL:B.length=L)(C:Option (List AV))(hC:C=some [.d (.int .i64 0),.d (.int .i64 0),.d (.sl U [])]):
 ∃(t:T) (g:Tag) (B':qak),(t.inner=0/\t.rng)/\qb7 bs q B B'/\B'.length=L/\
  qax XV (XV.lin 166) qiP ⟨[(0,.ptr q 0),(1,.d (.int .i64 deep)),(2,.d (.int .i64 vars)),(6,.ptr L 0),(14,.d (.bool true))],B++[C]⟩=
   some (.ret,⟨[(6,.ptr L 0)],B'++[some [.d (.int .i64 t.f),.d (.int .i64 t.v),.d (.sl g (t.kids.map (T.enc g)))]]⟩):=by
 subst hC;have hq:=h.lt;have leaf2:∀B1:qak,qb7 bs q B B1->B1.length=L->∃(t:T) (g:Tag) (B':qak),(t.inner=0/\t.rng)/\qb7 bs q B B'/\B'.length=L/\
  ∀b20:AV,qax XV (XV.lin 166) (.seq (.region false 0 [6] qpi) .ret) ⟨[(0,.ptr q 0),(2,.d (.int .i64 vars)),(6,.ptr L 0),(20,b20)],B1++[some [.d (.int .i64 0),.d (.int .i64 0),.d (.sl U [])]]⟩=
   some (.ret,⟨[(6,.ptr L 0)],B'++[some [.d (.int .i64 t.f),.d (.int .i64 t.v),.d (.sl g (t.kids.map (T.enc g)))]]⟩):=by
  intro B1 hT1 hL1;obtain⟨r,B2,hr,hT2,hc⟩:=qbw bs hl _ q ((hT1.at hq).app [some [.d (.int .i64 0),.d (.int .i64 0),.d (.sl U [])]]) 2 (by omega) (by omega);obtain⟨B3,hT3,hL3,rfl⟩:=qcv (by omega) hT2;rw[hL1]at hL3;have hw:IntKind.i64.wrap (1+r)=1+r:=wrap_i64 (by omega) (by omega);refine⟨.node (1+r) 0 [],U,B3,by simp[T.inner,T.inners,T.rng,T.rngs],hT1.trans hT3,hL3,fun b20=> ?_⟩;simp[qpi,hc,hw,hL3,qi4,qkh,splice,qaa,qae,qac,qan]
 by_cases hv0:0<vars
 ·obtain⟨b,B2,hT2,hc⟩:=qiB bs hl _ q (h.app [some [.d (.int .i64 0),.d (.int .i64 0),.d (.sl U [])]]) 2 (by omega) (by omega)
  obtain⟨B3,hT3,hL3,rfl⟩:=qcv hq hT2;cases b with
  |true=>
   obtain⟨r,B4,hr,hT4,hc4⟩:=qbw bs hl _ q ((hT3.at hq).app [some [.d (.int .i64 0),.d (.int .i64 0),.d (.sl U [])]]) vars hv0 hv;obtain⟨B5,hT5,hL5,rfl⟩:=qcv (by omega) hT4;have hlv:=qxj r;rw[hL3,hL]at hL5;refine⟨.node (-1) r [],U,B5,by simp[T.inner,T.inners,T.rng,T.rngs];omega,hT3.trans hT5,hL5,?_⟩;simp[qiP,qmn,qtZ,hv0,hc,hc4,hlv,hL5,qi4,qkh,splice,qaa,qae,qac,qan]
  |false=>
   obtain⟨t,g,B',h1,h2,h3,h4⟩:=leaf2 B3 hT3 (by omega);refine⟨t,g,B',h1,h2,h3,?_⟩;have h4':=h4 (.d (.bool false));simp only[qiM]at h4';simp[qiP,qmn,hv0,hc];simpa using h4'
 ·obtain⟨t,g,B',h1,h2,h3,h4⟩:=leaf2 B (by
   obtain⟨pos,st,hp,hb⟩:=h;refine⟨pos,st,hp,?_⟩;apply List.ext_getElem?;intro j
   by_cases hj:q=j
   ·subst hj;rw[List.getElem?_set_self',qda hb];simp
   ·rw[List.getElem?_set_ne hj]) hL
  refine⟨t,g,B',h1,h2,h3,?_⟩;have h4':=h4 (.d (.bool false));simp only[qiM]at h4';simp[qiP,qmn,hv0];simpa using h4'
theorem qhW(L:Nat)(B B':qak)(q:Nat)(deep vars:Int)(t:T)(g:Tag)(hq:q<B.length)(hL:B.length=L)(hL':B'.length=L)
 (h:qax XV (XV.lin 166) qgR ⟨[(0,.ptr q 0),(1,.d (.int .i64 deep)),(2,.d (.int .i64 vars)),(6,.ptr L 0)],B++[some [.d (.int .i64 0),.d (.int .i64 0),.d (.sl U [])]]⟩=
  some (.ret,⟨[(6,.ptr L 0)],B'++[some [.d (.int .i64 t.f),.d (.int .i64 t.v),.d (.sl g (t.kids.map (T.enc g)))]]⟩)):
 qai XV 166 [.ptr q 0,.d (.int .i64 deep),.d (.int .i64 vars)] B=some (.d (t.enc g),B'):=by
 rw[qaE XV _ _ _ qBF rfl qsh rfl,qzT];simp only[qiM]at h;obtain⟨f,v,ks⟩:=t;simp only[T.qdW,T.qer,T.qa0]at h;simp[qt0,hL,qi4,qkh,hq];rw[h];simp[hL',qi4,qvw,qad]
theorem qdt(bs:List Int)(hl:bs.length<=1099511627776):∀(d:Nat),d<=8->∀(vars:Int),vars<=256->∀(B:qak) (q:Nat),qbO bs q B->
 ∃(t:T) (g:Tag) (B':qak),(t.inner+2<=2^(d+1)/\t.rng)/\qb7 bs q B B'/\qai XV 166 [.ptr q 0,.d (.int .i64 d),.d (.int .i64 vars)] B=some (.d (t.enc g),B'):=by
 intro d
 induction d with
 |zero=>
  intro _ vars hv B q hs;obtain⟨t,g,B',h1,h2,h3,h4⟩:=qpU bs hl 0 vars hv B q hs B.length rfl _ rfl;refine⟨t,g,B',⟨by omega,h1.2⟩,h2,qhW B.length B B' q 0 vars t g hs.lt rfl h3 ?_⟩;simp only[qiM]at h4⊢
  simp[qgR,qj6];rw[h4];simp
 |succ d ih=>
  intro hd vars hv B q hs;have hq:=hs.lt;obtain⟨b,B2,hT2,hc⟩:=qiB bs hl _ q (hs.app [some [.d (.int .i64 0),.d (.int .i64 0),.d (.sl U [])]]) 3 (by omega) (by omega);obtain⟨B3,hT3,hL3,rfl⟩:=qcv hq hT2;have hne:(((d+1:Nat):Int)==0)=false:=by simpa using (show¬(((d+1:Nat):Int)=0)by omega)
  cases b with
  |true=>
   obtain⟨t,g,B',h1,h2,h3,h4⟩:=qpU bs hl ((d+1:Nat):Int) vars hv B3 q (hT3.at hq) B.length hL3 _ rfl;refine⟨t,g,B',⟨by have:2^1<=2^(d+1+1):=Nat.pow_le_pow_right (by omega) (by omega);omega,h1.2⟩,hT3.trans h2,qhW B.length B B' q _ vars t g hq rfl h3 ?_⟩;simp only[qiM]at h4⊢
   generalize ((d+1:Nat):Int)=D at*
   simp[qgR,qj6,hne,hc];rw[h4];simp
  |false=>
   obtain⟨j,hj,B4,hT4,hc4⟩:=qcX bs hl _ q ((hT3.at hq).app [some [.d (.int .i64 0),.d (.int .i64 0),.d (.sl U [])]]) [3,4,5,5,6] (by simp) (by simp);obtain⟨B5,hT5,hL5,rfl⟩:=qcv (by omega) hT4;generalize ([3,4,5,5,6]:List Int)[j]=f at hc4;obtain⟨t1,g1,B6,hi1,hT6,hc6⟩:=ih (by omega) vars hv _ q ((hT5.at (by omega)).app [some [.d (.int .i64 0),.d (.int .i64 0),.d (.sl U [])]]);obtain⟨B7,hT7,hL7,rfl⟩:=qcv (by omega) hT6;have hw:=qsE (n:=d) (by omega)
   by_cases hf:3<f
   ·obtain⟨t2,g2,B8,hi2,hT8,hc8⟩:=ih (by omega) vars hv _ q ((hT7.at (by omega)).app [some [.d (.int .i64 0),.d (.int .i64 0),.d (.sl U [])]])
    obtain⟨B9,hT9,hL9,rfl⟩:=qcv (by omega) hT8;have hof:qai XV 164 [.d (.int .i64 f),.d (.sl .sub [t1.enc .sub,t2.enc .sub])] []=some (.d (.agg [.int .i64 f,.int .i64 0,.sl .sub [t1.enc .sub,t2.enc .sub]]),[]):=by
     have:=qpH f [t1,t2];rw[T.qbP]at this;exact this
    refine⟨.node f 0 [t1,t2],.sub,B9,⟨by simp only[T.inner,T.inners,List.length_cons,List.length_nil];rw[Nat.pow_succ];omega,by simp[T.rng,T.rngs,hi1.2,hi2.2]⟩,hT3.trans (hT5.trans (hT7.trans hT9)),qhW B.length B B9 q _ vars _ .sub hq rfl (by omega) ?_⟩;have e9:B9.length=B.length:=by omega
    have e7:B7.length=B.length:=by omega
    have e5:B5.length=B.length:=by omega
    simp only[List.map_cons,List.map_nil]at hc4;generalize ((d+1:Nat):Int)=D at*
    generalize (d:Int)=D0 at*
    simp[qgR,qou,qj6,qph,qpg,qpf,qpe,qpd,hne,hc,hc4,hw,hc6,hf,hc8,hof,e9,qay,List.replicate,qi4,qkh,splice,qaa,qae,qac,qan,qbc]
   ·have hof:qai XV 164 [.d (.int .i64 f),.d (.sl .sub [t1.enc .sub])] []=some (.d (.agg [.int .i64 f,.int .i64 0,.sl .sub [t1.enc .sub]]),[]):=by
     have:=qpH f [t1];rw[T.qbP]at this;exact this
    refine⟨.node f 0 [t1],.sub,B7,⟨by simp only[T.inner,T.inners,List.length_cons,List.length_nil];rw[Nat.pow_succ];omega,by simp[T.rng,T.rngs,hi1.2]⟩,hT3.trans (hT5.trans hT7),qhW B.length B B7 q _ vars _ .sub hq rfl (by omega) ?_⟩;have e7:B7.length=B.length:=by omega
    have e5:B5.length=B.length:=by omega
    simp only[List.map_cons,List.map_nil]at hc4;generalize ((d+1:Nat):Int)=D at*
    generalize (d:Int)=D0 at*
    simp[qgR,qou,qj6,qph,qpg,qpf,qpe,qpd,hne,hc,hc4,hw,hc6,hf,hof,e7,qay,List.replicate,qi4,qkh,splice,qaa,qae,qac,qan,qbc]
end Go.Proofs.Ytfiakfiocdfpbaa.VS
namespace Go.Proofs.Ytfiakfiocdfpbaa.VS
theorem qxY(s:List SymL)(f:Int)(k:T)(h:k.rng):T.rngs (qlx s f k):=by
 unfold qlx;split
 ·obtain⟨a,b,c⟩:=k;exact h.2
 ·exact⟨h,trivial⟩
theorem qkL{a b:List T}(h1:T.rngs a)(h2:T.rngs b):T.rngs (a++b):=by
 rw[T.qfk]at*
 intro t ht;rcases List.mem_append.1 ht with h|h
 ·exact h1 t h
 ·exact h2 t h
theorem qmW(s:List SymL)(f:Int):∀l:List T,T.rngs l->T.rngs (flatK s f l)
 | [],_=>by simp[flatK,T.rngs]
 |k::l,h=>by rw[qbx];exact qkL (qxY s f k h.1) (qmW s f l h.2)
mutual
theorem qpy(s:List SymL):∀t:T,t.rng->(t.norm s).rng
 | .node f v ks,h=>by
  have h2:=qmW s f _ (qmI s ks h.2);simp only[T.norm];split
  ·refine⟨h.1,?_⟩
   rw[T.qfk]at h2⊢
   exact fun t ht=>h2 t ((qcb _).mem_iff.1 ht)
  ·exact⟨h.1,h2⟩
theorem qmI(s:List SymL):∀l:List T,T.rngs l->T.rngs (T.norms s l)
 | [],_=>trivial
 |t::r,h=>⟨qpy s t h.1,qmI s r h.2⟩
end
theorem qm2(bs:List Int)(hl:bs.length<=1099511627776)(vars:Int)(hv:vars<=256)(B:qak)(q:Nat)(h:qbO bs q B):
 ∃(t:T) (B':qak),(t.inner<=6/\t.rng)/\(∃u,t=T.norm qcB u)/\qb7 bs q B B'/\qai XV 163 [.ptr q 0,.d (.int .i64 vars)] B=some (.d (t.enc U),B'):=by
 have hq:=h.lt;obtain⟨t,g,B1,hi,hT,hc⟩:=qdt bs hl 2 (by omega) vars hv _ q (h.app [some [.d (.int .i64 0),.d (.int .i64 0),.d (.sl U [])]]);obtain⟨B2,hT2,hL2,rfl⟩:=qcv hq hT;have hn:=qdl qcB (by decide) t (by omega);have hin:=qcO qcB t;refine⟨t.norm qcB,B2,⟨by omega,qpy qcB t hi.2⟩,⟨t,rfl⟩,hT2,?_⟩;rw[qaE XV _ _ _ qBG rfl qsj rfl];have hsg:=qfY;rw[qjy]at hn;have e:(t.norm qcB).enc U= .agg [.int .i64 t.f,.int .i64 t.v,.sl U (qoT qcB t)]:=by rw[<-qjy];rfl
 rw[e];generalize qoT qcB t=X at*
 have hc':qai XV 166 [AV.ptr q 0,AV.d (DV.int IntKind.i64 2),AV.d (DV.int IntKind.i64 vars)] (B++[some [AV.d (DV.int IntKind.i64 0),AV.d (DV.int IntKind.i64 0),AV.d (DV.sl U [])]])=some (AV.d (t.enc g),B2++[some [AV.d (DV.int IntKind.i64 0),AV.d (DV.int IntKind.i64 0),AV.d (DV.sl U [])]]):=hc;simp[qBG,qyr,qyq,hq,hsg,hc',hn,hL2,qi4,qkh,qvw,qad,splice,qaa,qae,qac,qan]
end Go.Proofs.Ytfiakfiocdfpbaa.VS
namespace Go.Proofs.Ytfiakfiocdfpbaa.VS
def fc(l:List T):List DV:=l.flatMap fun t=>(t.enc U).cells
def fcs(l:List T):List DV:=l.flatMap fun t=>(t.enc .sub).cells
theorem qGj(l:List T):(l.map (T.enc U)).flatMap DV.cells=fc l:=by unfold fc;rw[List.flatMap_map]
theorem qgK(t:T)(l:List T):fc (t::l)= .int .i64 t.f:: .int .i64 t.v:: .sl U (t.kids.map (T.enc U))::fc l:=by
 unfold fc;rw[List.flatMap_cons,T.qbP];rfl
theorem qf9(t:T)(l:List T):fcs (t::l)= .int .i64 t.f:: .int .i64 t.v:: .sl .sub (t.kids.map (T.enc .sub))::fcs l:=by
 unfold fcs;rw[List.flatMap_cons,T.qbP];rfl
theorem qDH(a b:List T):fc (a++b)=fc a++fc b:=by unfold fc;simp
theorem qvg(a b:List T):fcs (a++b)=fcs a++fcs b:=by unfold fcs;simp
theorem qmX:∀l:List T,(fc l).map DV.clr=fcs l
 | []=>rfl
 |t::l=>by rw[qgK,qf9,List.map_cons,List.map_cons,List.map_cons,qmX l];simp
theorem qfq:∀l:List T,(fc l).length=l.length*3
 | []=>rfl
 |t::l=>by rw[qgK];simp[qfq l];omega
theorem qvf:∀l:List T,(fcs l).length=l.length*3
 | []=>rfl
 |t::l=>by rw[qf9];simp[qvf l];omega
theorem qf4(f:AV->Option DV):∀(a b:List AV) {x y:List DV},qdA f a=some x->qdA f b=some y->qdA f (a++b)=some (x++y)
 | [],b,x,y,h1,h2=>by simp[qdA]at h1;subst h1;simpa using h2
 |v::a,b,x,y,h1,h2=>by
  simp only[qdA]at h1;obtain⟨d,e1,h1⟩:=Option.bind_eq_some_iff.1 h1;obtain⟨x',e2,rfl⟩:=Option.map_eq_some_iff.1 h1;simp only[List.cons_append,qdA,e1,qf4 f a b e2 h2,Option.bind_some,Option.map_some]
theorem qke(M:qak)(n:Nat):∀l:List DV,qdA (AV.frzC M n) (l.map .d)=some l
 | []=>rfl
 |d::l=>by
  simp only[List.map_cons,qdA,qyZ,qke M n l,Option.bind_some,Option.map_some]
theorem qjb{d:DV}{k:IntKind}{n:Int}(h:d.clr= .int k n):d= .int k n:=by
 cases d<;>simp[DV.clr]at h⊢<;>exact h
theorem qrk{d:DV}{l:List DV}(h:d.clr= .sl .sub l):∃g xs,d= .sl g xs/\DV.clrs xs=l:=by
 cases d<;>simp[DV.clr]at h
 exact⟨_,_,rfl,h⟩
theorem qoo{t:T}{l:List T}{ds:List DV}(h:ds.map DV.clr=fcs (t::l)):∃g xs r,ds= .int .i64 t.f:: .int .i64 t.v:: .sl g xs::r/\DV.clrs xs=t.kids.map (T.enc .sub)/\r.map DV.clr=fcs l:=by
 rw[qf9]at h
 match ds,h with
 | [],h=>simp at h
 | [_],h=>simp at h
 | [_,_],h=>simp at h
 |d0::d1::d2::r,h=>
  simp only[List.map_cons,List.cons.injEq]at h;obtain⟨h0,h1,h2,h3⟩:=h;obtain⟨g,xs,rfl,hx⟩:=qrk h2;exact⟨g,xs,r,by rw[qjb h0,qjb h1],hx,h3⟩
theorem qpR:∀(l:List T) (ds:List DV),ds.map DV.clr=fcs l->ds.all DV.isCell=true
 | [],ds,h=>by
  have:ds=[]:=by simpa[fcs]using h
  subst this;rfl
 |t::l,ds,h=>by
  obtain⟨g,xs,r,rfl,hx,hr⟩:=qoo h;simp[qaa,qae];simpa using qpR l r hr
theorem qkf:∀(l:List T) (ds:List DV),ds.map DV.clr=fcs l->∃xs,chunks true 3 l.length ds=some xs/\xs.map DV.clr=l.map (T.enc .sub)
 | [],ds,h=>⟨[],rfl,rfl⟩
 |t::l,ds,h=>by
  obtain⟨g,xs,r,rfl,hx,hr⟩:=qoo h;obtain⟨ys,h1,h2⟩:=qkf l r hr;refine⟨.agg [.int .i64 t.f,.int .i64 t.v,.sl g xs]::ys,?_,?_⟩
  ·simp[chunks,cut,qaa,qae,h1,DV.cells]
  ·rw[List.map_cons,List.map_cons,h2,T.qbP]
   simp only[DV.clr,DV.clrs,hx]
theorem qBs(B:qak)(i:Nat)(h:2<=i):qaU (qch 2 B) i=qaU B i:=by
 unfold qaU qch;rw[List.getElem?_append_right (by simp;exact h),List.length_replicate,List.getElem?_drop,show 2+(i-2)=i by omega]
def Ctx(j:Nat)(B:qak)(A D:List T)(N:Nat):Prop:=
 ∀(B':qak) (cs:List AV) (u:T) (ds:List DV),B'.length=6->(∀i,j<i->B'[i]?=B[i]?)->B'[j]?=some (some cs)->qdA (AV.frzC (qch 2 B') (j+1)) cs=some ds->ds.map DV.clr=fcs (A++u::D)->
  ∃(c5:List AV) (ds5:List DV) (t':T),B'[5]?=some (some c5)/\qdA (AV.frzC (qch 2 B') 6) c5=some ds5/\ds5.map DV.clr=fcs [t']/\t'.inner<=N+u.inner/\(u.rng->t'.rng)
theorem Ctx.base(B:qak):Ctx 5 B [] [] 0:=fun B' cs u ds h1 h2 h3 h4 h5=>⟨cs,ds,u,h3,h4,h5,by omega,id⟩
theorem qfd:∀a b:List T,T.inners (a++b)=T.inners a+T.inners b
 | [],b=>by simp[T.inners]
 |t::a,b=>by simp only[List.cons_append,T.inners,qfd a b];omega
theorem Ctx.step{j:Nat}{B B1:qak}{A D A' D':List T}{N m:Nat}{f v:Int}(hj:2<=j)(h:Ctx (j+1) B A D N)(hag:∀i,j+1<i->B1[i]?=B[i]?)
 (hat:B1[j+1]?=some (some ((fc A).map .d++([.d (.int .i64 f),.d (.int .i64 v),.tsl true j 3 m]++(fc D).map .d)))) (hm:A'.length+1+D'.length=m) (hv: -9223372036854775808<=v/\v<=9223372036854775807) (hA:T.rngs A') (hD:T.rngs D'):Ctx j B1 A' D' (N+(m+T.inners A'+T.inners D')):=by
 intro B' cs u ds h1 h2 h3 h4 h5;have hlen:ds.length=m*3:=by
  have:=congrArg List.length h5;rw[List.length_map,qvf]at this;rw[this];simp only[List.length_append,List.length_cons];rw[<-hm];congr 1;omega
 obtain⟨xs,hx1,hx2⟩:=qkf _ _ h5;have hm':(A'++u::D').length=m:=by simp only[List.length_append,List.length_cons];omega
 rw[hm']at hx1;have htsl:AV.frzC (qch 2 B') (j+1+1) (.tsl true j 3 m)=some (.sl .sub xs):=by
  simp only[AV.frzC];rw[qBs _ _ hj];simp only[qaU,h3,Option.bind_some,h4,hlen,if_true,hx1,Option.map_some]
 have hmid:qdA (AV.frzC (qch 2 B') (j+1+1)) [.d (.int .i64 f),.d (.int .i64 v),.tsl true j 3 m]=some [.int .i64 f,.int .i64 v,.sl .sub xs]:=by
  simp only[qdA,htsl,qyZ,Option.bind_some,Option.map_some]
 have hfr:=qf4 _ _ _ (qke (qch 2 B') (j+1+1) (fc A)) (qf4 _ _ _ hmid (qke (qch 2 B') (j+1+1) (fc D)));have hclr:(fc A++([DV.int .i64 f,DV.int .i64 v,DV.sl .sub xs]++fc D)).map DV.clr=fcs (A++(T.node f v (A'++u::D'))::D):=by
  rw[List.map_append,List.map_append,qmX,qmX,qvg,qf9];simp only[List.map_cons,List.map_nil,DV.clr,DV.qap,hx2,T.qdW,T.qer,T.qa0,List.cons_append,List.nil_append]
 obtain⟨c5,ds5,t',e1,e2,e3,e4,e4r⟩:=h B' _ _ _ h1 (fun i hi=>by rw[h2 i (by omega),hag i hi]) (by rw[h2 (j+1) (by omega),hat]) hfr hclr;refine⟨c5,ds5,t',e1,e2,e3,?_,fun hu=>e4r ⟨hv,qkL hA ⟨hu,hD⟩⟩⟩;have e5:(T.node f v (A'++u::D')).inner=m+(T.inners A'+(u.inner+T.inners D')):=by rw[T.qgp,T.qa0,hm',qfd];rfl
 omega
end Go.Proofs.Ytfiakfiocdfpbaa.VS
namespace Go.Proofs.Ytfiakfiocdfpbaa.VS
def qcL(A:List T)(x0 x1 x2:AV)(D:List T):List AV:=(fc A).map .d++([x0,x1,x2]++(fc D).map .d)
theorem qc4(A:List T)(x0 x1 x2:AV)(D:List T):(qcL A x0 x1 x2 D).length=A.length*3+3+D.length*3:=by
 unfold qcL;simp[qfq];omega
theorem qoU(A:List T)(x0 x1 x2:AV)(D:List T):(qcL A x0 x1 x2 D)[A.length*3+2]?=some x2:=by
 unfold qcL;rw[List.getElem?_append_right (by simp[qfq])];simp[qfq]
theorem qsW(A:List T)(x0 x1 x2 y:AV)(D:List T):(qcL A x0 x1 x2 D).set (A.length*3+2) y=qcL A x0 x1 y D:=by
 unfold qcL;rw[List.set_append_right _ _ (by simp[qfq])];simp[qfq]
theorem qz8(A:List T)(x0 x1 x2 y:AV)(D:List T):(qcL A x0 x1 x2 D).set (A.length*3) y=qcL A y x1 x2 D:=by
 unfold qcL;rw[List.set_append_right _ _ (by simp[qfq])];simp[qfq]
theorem qz7(A:List T)(x0 x1 x2 y:AV)(D:List T):(qcL A x0 x1 x2 D).set (A.length*3+1) y=qcL A x0 y x2 D:=by
 unfold qcL;rw[List.set_append_right _ _ (by simp[qfq])];simp[qfq]
theorem qgv{cs:List AV}{k:Nat}(h:k<cs.length)(y:AV):splice cs k [y]=cs.set k y:=by
 unfold splice;rw[List.set_eq_take_append_cons_drop,if_pos h];simp
theorem qAa(A:List T)(x0 x1 x2 y:AV)(D:List T):splice (qcL A x0 x1 x2 D) (A.length*3) [y]=qcL A y x1 x2 D:=by
 rw[qgv (by rw[qc4];omega),qz8]
theorem qz9(A:List T)(x0 x1 x2 y:AV)(D:List T):splice (qcL A x0 x1 x2 D) (A.length*3+1) [y]=qcL A x0 y x2 D:=by
 rw[qgv (by rw[qc4];omega),qz7]
theorem qsX(A:List T)(x0 x1 x2 y:AV)(D:List T):splice (qcL A x0 x1 x2 D) (A.length*3+2) [y]=qcL A x0 x1 y D:=by
 rw[qgv (by rw[qc4];omega),qsW]
def TR(rs:List DV):Prop:=rs.all (fun r=> !(DV.int .u8 0).like r)=true
theorem qEk:∀l:List T,TR (fc l)
 | []=>rfl
 |t::l=>by
  have:=qEk l;unfold TR at this⊢
  rw[qgK];simp only[List.all_cons,this,Bool.and_true];rfl
mutual
theorem qw5(rs:List DV):∀t:T,DV.xrest rs (t.enc U)=true
 | .node f v ks=>by
  rw[T.qbP];simp only[qlJ,qfv,qlH,qrX,qgt,Bool.and_true,Bool.true_and,T.qa0];exact qey rs ks
theorem qey(rs:List DV):∀l:List T,DV.xrests rs (l.map (T.enc U))=true
 | []=>by simp only[List.map_nil,qgt]
 |t::l=>by simp only[List.map_cons,qfv,qw5 rs t,qey rs l,Bool.and_true]
end
theorem qs2(rs:List DV):∀l:List T,DV.xrests rs (fc l)=true
 | []=>by simp[fc]
 |t::l=>by rw[qgK];simp[qey,qs2 rs l]
theorem qfg(rs:List DV):∀l:List T,qbn rs ((fc l).map .d)=true
 | []=>by simp[fc]
 |t::l=>by rw[qgK];simp[qey,qfg rs l]
theorem qge(rs:List DV)(a b:List AV):qbn rs (a++b)=(qbn rs a&&qbn rs b):=by simp[qbn]
theorem qgk(rs:List DV)(B:qak)(i:Nat)(cs:List AV)(h:qaR rs B=true)(hc:qbn rs cs=true):qaR rs (B.set i (some cs))=true:=by
 unfold qaR at h⊢
 rw[List.all_eq_true]at h⊢
 intro x hx;rcases List.mem_or_eq_of_mem_set hx with h1|h1
 ·exact h x h1
 ·subst h1;exact hc
structure WS(bs:List Int)(j k:Nat)(B:qak)(A D:List T)(f v:Int)(ks:List T)(N:Nat):Prop where
 jk:j+k=5
 j2:2<=j
 len:B.length=6
 seed:qbO bs 0 B
 one:B[1]?=some (some [.d (.int .i64 0),.d (.int .i64 0),.d (.sl U [])])
 free:∀i,2<=i->i<j->B[i]?=some none
 at_:B[j]?=some (some (qcL A (.d (.int .i64 f)) (.d (.int .i64 v)) (.d (.sl U (ks.map (T.enc U)))) D))
 rest:∀rs,TR rs->qaR rs B=true
 ctx:Ctx j B A D N
 siz:N+(T.node f v ks).inner<=6
 rg:(T.node f v ks).rng
theorem WS.turn{bs:List Int}{j k:Nat}{B:qak}{A D:List T}{f v:Int}{ks:List T}{N:Nat}(h:WS bs j k B A D f v ks N){B':qak}(hT:qb7 bs 0 B B'):WS bs j k B' A D f v ks N:=by
 have h0:=hT.at (by rw[h.len];omega);obtain⟨pos,st,hp,rfl⟩:=hT;have e:∀i,1<=i->(B.set 0 (some (qaZ bs pos st)))[i]?=B[i]?:=fun i hi=>by rw[List.getElem?_set_ne (by omega)]
 have hj:=h.j2;refine⟨h.jk,h.j2,by simp[h.len],h0,by rw[e 1 (by omega)];exact h.one,fun i h1 h2=>by rw[e i (by omega)];exact h.free i h1 h2,by rw[e j (by omega)];exact h.at_,fun rs hr=>qgk rs B 0 _ (h.rest rs hr) (qe5 rs hr bs pos st),?_,h.siz,h.rg⟩;intro B' cs u ds h1 h2;exact h.ctx B' cs u ds h1 (fun i hi=>by rw[h2 i hi,e i (by omega)])
theorem qDF{bs:List Int}{j k:Nat}{B:qak}{A D:List T}{f v:Int}{ks:List T}{N:Nat}(h:WS bs (j+1) k B A D f v ks N)(hk:0<ks.length)(hj:2<=j)(x5 x22:DV)(h5:∀rs,DV.xrest rs x5=true):
 qnq (.focC 4 2 [0,2,3,4,5]) ⟨[(0,.ptr 0 0),(2,.ptr 1 0),(3,.ptr 5 0),(4,.ptr (j+1) (A.length*3)),(5,.d x5),(22,.d x22)],B⟩=
  some ⟨[(0,.ptr 0 0),(2,.ptr 1 0),(3,.ptr 5 0),(4,.ptr (j+1) (A.length*3)),(5,.d x5)],(B.set (j+1) (some (qcL A (.d (.int .i64 f)) (.d (.int .i64 v)) (.tsl true j 3 ks.length) D))).set j (some ((fc ks).map .d))⟩:=by
 have hat:=h.at_;have hfree:=h.free j hj (by omega);have hr:=h.rest (fc ks) (qEk ks);have hc:qbn (fc ks) (qcL A (.d (.int .i64 f)) (.d (.int .i64 v)) (.tsl true j 3 ks.length) D)=true:=by
  unfold qcL;rw[qge,qge,qfg,qfg];simp
 have hb:=qgk (fc ks) B (j+1) _ hr hc;have hx:=qs2 (fc ks) ks;have hg:=qoU A (.d (.int .i64 f)) (.d (.int .i64 v)) (.d (.sl U (ks.map (T.enc U)))) D;have hs:=qsW A (.d (.int .i64 f)) (.d (.int .i64 v)) (.d (.sl U (ks.map (T.enc U)))) (.tsl true j 3 ks.length) D;have hlen:(ks.map (T.enc U)).length=ks.length:=by simp
 cases ks with
 |nil=>simp at hk
 |cons k0 kr=>
  have hfc:(T.enc U k0::kr.map (T.enc U)).flatMap DV.cells=fc (k0::kr):=by rw[<-qGj];rfl
  have hag:qa6 (k0.enc U)=true:=by rw[T.qbP];rfl
  have hcl:(k0.enc U).cells.length=3:=by simp
  have hbg:qaU B (j+1)=some (qcL A (.d (.int .i64 f)) (.d (.int .i64 v)) (.d (.sl U (T.enc U k0::kr.map (T.enc U)))) D):=by simp only[qaU,hat,List.map_cons]
  simp only[List.map_cons]at hg hs hlen;have hw:xFc 2 [0,2,3,4,5] ⟨[(0,.ptr 0 0),(2,.ptr 1 0),(3,.ptr 5 0),(4,.ptr (j+1) (A.length*3)),(5,.d x5),(22,.d x22)],B⟩ j (A.length*3) (qcL A (.d (.int .i64 f)) (.d (.int .i64 v)) (.d (.sl U (T.enc U k0::kr.map (T.enc U)))) D) (some (.d (.sl U (T.enc U k0::kr.map (T.enc U)))))=
   some ⟨[(0,.ptr 0 0),(2,.ptr 1 0),(3,.ptr 5 0),(4,.ptr (j+1) (A.length*3)),(5,.d x5)],(B.set (j+1) (some (qcL A (.d (.int .i64 f)) (.d (.int .i64 v)) (.tsl true j 3 (k0::kr).length) D))).set j (some ((fc (k0::kr)).map .d))⟩:=by
   rw[qu5,hfc,hag,hcl,show(kr.map (T.enc U)).length+1=(k0::kr).length from by simp,hs,if_pos ⟨by simp[qbN,hfree],by simp[keep,lk,h5],hb,hx⟩];rfl
  rw[qyY];simp only[lk,Nat.reduceEqDiff,if_false,if_true];rw[qu6,hbg,Option.bind_some,hg];exact hw
end Go.Proofs.Ytfiakfiocdfpbaa.VS
namespace Go.Proofs.Ytfiakfiocdfpbaa.VS
theorem qeh(bs:List Int)(pos st:Int):qav (qaZ bs pos st)=some [.sl .sub (bs.map (.int .u8)),.int .i64 pos,.int .i64 st]:=by simp[qaZ]
theorem qfo{B:qak}{i j:Nat}{c:Option (List AV)}(h:i≠j):(B.set i c)[j]?=B[j]?:=by rw[List.getElem?_set_ne h]
theorem qw3{ks:List T}{r:Nat}(h:r<ks.length):(fc ks).map AV.d=qcL (ks.take r) (.d (.int .i64 (tAt ks r).f)) (.d (.int .i64 (tAt ks r).v)) (.d (.sl U ((tAt ks r).kids.map (T.enc U)))) (ks.drop (r+1)):=by
 have e:ks=ks.take r++tAt ks r::ks.drop (r+1):=by
  conv=>lhs;rw[<-List.take_append_drop r ks,List.drop_eq_getElem_cons h,qaO h]
 conv=>lhs;rw[e,qDH,qgK]
 unfold qcL;simp
theorem qGf(bs:List Int)(hl:bs.length<=1099511627776){j k:Nat}{B:qak}{A D:List T}{f v:Int}{ks:List T}{N:Nat}(h:WS bs (j+1) k B A D f v ks N)(hk:0<ks.length)(hj:2<=j):
 ∃(B':qak) (A' D':List T) (f' v':Int) (ks':List T) (N':Nat),WS bs j (k+1) B' A' D' f' v' ks' N'/\
  qax XV (XV.lin 161) (.seq (.block 1 (.ghost (.focC 4 2 [0,2,3,4,5]) (.region true 0 [0,2,3,4,5] qmo))) (.region false 0 [0,2,3,4,5] qpj)) ⟨[(0,.ptr 0 0),(2,.ptr 1 0),(3,.ptr 5 0),(4,.ptr (j+1) (A.length*3)),(5,.d (.int .i64 k)),(22,.d (.bool true))],B⟩=
   some (.normal,⟨[(0,.ptr 0 0),(2,.ptr 1 0),(3,.ptr 5 0),(4,.ptr j (A'.length*3)),(5,.d (.int .i64 ((k+1:Nat):Int)))],B'⟩):=by
 have hfo:=qDF h hk hj (.int .i64 k) (.bool true) (fun rs=>by simp);have hlen:=h.len;have hjk:=h.jk;obtain⟨pos,st,hp,hb0⟩:=h.seed;have hb0':=qda hb0;have hs1:qbO bs 0 [some (qaZ bs pos st)]:=⟨pos,st,hp,rfl⟩;have hsz:=h.siz;rw[T.qcx]at hsz;have hcn:=qcD ks;obtain⟨r,B1,hr,⟨pos1,st1,hp1,rfl⟩,hc⟩:=qbw bs hl _ 0 hs1 ks.length (by omega) (by omega);simp only[List.set_cons_zero]at hc;have hrl:r.toNat<ks.length:=by omega
 have hw:=qaF (n:=k) (by omega);generalize hR:qcL A (.d (.int .i64 f)) (.d (.int .i64 v)) (.tsl true j 3 ks.length) D=R at hfo;have hR2:R[A.length*3+2]?=some (.tsl true j 3 ks.length):=by rw[<-hR];exact qoU _ _ _ _ _
 have hRl:A.length*3+2<R.length:=by rw[<-hR,qc4];omega
 have g0:((B.set (j+1) (some R)).set j (some ((fc ks).map .d)))[0]?=some (some (qaZ bs pos st)):=by rw[qfo (by omega),qfo (by omega)];exact hb0'
 have g1:((B.set (j+1) (some R)).set j (some ((fc ks).map .d)))[j+1]?=some (some R):=by rw[qfo (by omega),List.getElem?_set_self (by omega)]
 have g2:((B.set (j+1) (some R)).set j (some ((fc ks).map .d))).length=6:=by simp[hlen]
 have gj:((B.set (j+1) (some R)).set j (some ((fc ks).map .d)))[j]?=some (some ((fc ks).map .d)):=by rw[List.getElem?_set_self (by simp;omega)]
 have gi:∀i,i≠j->i≠j+1->((B.set (j+1) (some R)).set j (some ((fc ks).map .d)))[i]?=B[i]?:=fun i h1 h2=>by rw[qfo (Ne.symm h1),qfo (Ne.symm h2)]
 have grest:∀rs,TR rs->qaR rs ((B.set (j+1) (some R)).set j (some ((fc ks).map .d)))=true:=fun rs hrs=>by
  refine qgk _ _ _ _ (qgk _ _ _ _ (h.rest rs hrs) ?_) (qfg rs ks);rw[<-hR];unfold qcL;rw[qge,qge,qfg,qfg];simp
 generalize hB2:(B.set (j+1) (some R)).set j (some ((fc ks).map .d))=B2 at*
 have hn6:¬6<=j+1:=by omega
 have g0':∀h:0<B2.length,B2[0]'h=some (qaZ bs pos st):=fun h=>(List.getElem?_eq_some_iff.1 g0).2
 have hR3:∀h:A.length*3+2<R.length,R[A.length*3+2]'h= .tsl true j 3 ks.length:=fun h=>(List.getElem?_eq_some_iff.1 hR2).2
 have hmin:min r.toNat ks.length=r.toNat:=by omega
 have hsd:=qeh bs pos st;have hsd1:=qeh bs pos1 st1;have hcl:=qcl bs pos st;have hcl1:=qcl bs pos1 st1;generalize qaZ bs pos st=S0 at*
 refine⟨B2.set 0 (some (qaZ bs pos1 st1)),ks.take r.toNat,ks.drop (r.toNat+1),(tAt ks r.toNat).f,(tAt ks r.toNat).v,(tAt ks r.toNat).kids,N+(ks.length+T.inners (ks.take r.toNat)+T.inners (ks.drop (r.toNat+1))),?_,?_⟩
 ·have e:ks=ks.take r.toNat++tAt ks r.toNat::ks.drop (r.toNat+1):=by
   conv=>lhs;rw[<-List.take_append_drop r.toNat ks,List.drop_eq_getElem_cons hrl,qaO hrl]
  refine⟨by omega,hj,by simp[g2],⟨pos1,st1,hp1,qp7 (by omega)⟩,by rw[qfo (by omega),gi 1 (by omega) (by omega)];exact h.one,fun i h1 h2=>by rw[qfo (by omega),gi i (by omega) (by omega)];exact h.free i h1 (by omega),by rw[qfo (by omega),gj];exact congrArg (some∘some) (qw3 hrl),fun rs hrs=>qgk _ _ _ _ (grest rs hrs) (qe5 rs hrs bs pos1 st1),?_,?_,?_⟩
  ·refine Ctx.step hj h.ctx (fun i hi=>by rw[qfo (by omega),gi i (by omega) (by omega)]) (by rw[qfo (by omega),g1,<-hR];rfl) ?_ h.rg.1 ?_ ?_
   ·have:=congrArg List.length e
    simp only[List.length_append,List.length_cons]at this;omega
   ·have:=h.rg.2;rw[T.qfk]at this⊢;exact fun t ht=>this t (List.mem_of_mem_take ht)
   ·have:=h.rg.2;rw[T.qfk]at this⊢;exact fun t ht=>this t (List.mem_of_mem_drop ht)
  ·have e2:T.inners ks=T.inners (ks.take r.toNat)+((tAt ks r.toNat).inner+T.inners (ks.drop (r.toNat+1))):=by
    conv=>lhs;rw[e,qfd]
    rfl
   have e3:(T.node (tAt ks r.toNat).f (tAt ks r.toNat).v (tAt ks r.toNat).kids).inner=(tAt ks r.toNat).inner:=by cases tAt ks r.toNat;rfl
   have e4:(T.node f v ks).inner=ks.length+T.inners ks:=by rw[T.qgp,T.qa0]
   have:=h.siz;omega
  ·have:=h.rg.2
   rw[T.qfk]at this;have h3:=this _ (qaJ hrl);generalize tAt ks r.toNat=x at h3;cases x;exact h3
 ·generalize qaZ bs pos1 st1=S1 at*
  simp only[quC];simp only[qdu,qrQ,qnu,hfo,Option.bind_some];simp[qD5,qpj,g2,g0,g1,gj,hR2,hRl,hsd,hsd1,hcl,hcl1,hc,hr.1,hr.2,hw,hn6,qad,hR3,hmin,g0',qp3]
end Go.Proofs.Ytfiakfiocdfpbaa.VS
namespace Go.Proofs.Ytfiakfiocdfpbaa.VS
theorem qAw(bs:List Int)(hl:bs.length<=1099511627776):∀(n j k:Nat) (B:qak) (A D:List T) (f v:Int) (ks:List T) (N:Nat),n+2=j->WS bs j k B A D f v ks N->
 ∀s0,qal 6 [0,2,3,4,5] s0=some ⟨[(0,.ptr 0 0),(2,.ptr 1 0),(3,.ptr 5 0),(4,.ptr j (A.length*3)),(5,.d (.int .i64 k))],B⟩->
 ∃(j' k':Nat) (B':qak) (A' D':List T) (f' v':Int) (ks':List T) (N':Nat),WS bs j' k' B' A' D' f' v' ks' N'/\
  qbp XV (XV.lin 161) 6 [0,2,3,4,5] qjh s0=some (.exit 0,⟨[(0,.ptr 0 0),(2,.ptr 1 0),(3,.ptr 5 0),(4,.ptr j' (A'.length*3)),(5,.d (.int .i64 k')),(22,.d (.bool false))],B'⟩):=by
 intro n
 induction n with
 |zero=>
  intro j k B A D f v ks N hn h s0 h0;refine⟨j,k,B,A,D,f,v,ks,N,h,qaG h0 ?_ (by simp)⟩;have hjk:=h.jk;have hk:¬((k:Int)<3):=by omega
  simp[qjh,qj7,hk]
 |succ n ih=>
  intro j k B A D f v ks N hn h s0 h0;have hjk:=h.jk;have hk:(k:Int)<3:=by omega
  have hat:=h.at_;have hrow:=qoU A (.d (.int .i64 f)) (.d (.int .i64 v)) (.d (.sl U (ks.map (T.enc U)))) D;generalize hR:qcL A (.d (.int .i64 f)) (.d (.int .i64 v)) (.d (.sl U (ks.map (T.enc U)))) D=R at*
  have hRl:A.length*3+2<R.length:=by rw[<-hR,qc4];omega
  have hR3:∀h:A.length*3+2<R.length,R[A.length*3+2]'h= .d (.sl U (ks.map (T.enc U))):=fun h=>(List.getElem?_eq_some_iff.1 hrow).2
  have hBl:j<B.length:=by rw[h.len];omega
  have hB3:∀h:j<B.length,B[j]'h=some R:=fun h=>(List.getElem?_eq_some_iff.1 hat).2
  by_cases hks:0<ks.length
  ·obtain⟨b,B1,hT,hc⟩:=qiB bs hl B 0 h.seed 2 (by omega) (by omega)
   have h1:=h.turn hT;cases b with
   |true=>
    refine⟨j,k,B1,A,D,f,v,ks,N,h1,qaG h0 ?_ (by simp)⟩;simp[qjh,qj7,hk,hks,hc,hBl,hB3,hRl,hR3,qad]
   |false=>
    subst hn;obtain⟨B',A',D',f',v',ks',N',hW,hgo⟩:=qGf bs hl h1 hks (by omega);obtain⟨j',k',B'',A'',D'',f'',v'',ks'',N'',hW2,hl2⟩:=ih (n+2) (k+1) B' A' D' f' v' ks' N' rfl hW ⟨[(0,.ptr 0 0),(2,.ptr 1 0),(3,.ptr 5 0),(4,.ptr (n+2) (A'.length*3)),(5,.d (.int .i64 ((k+1:Nat):Int)))],B'⟩ (qee (e:=[]) (by simp) (by simp[qaf];omega) hW.len (by simp));refine⟨j',k',B'',A'',D'',f'',v'',ks'',N'',hW2,?_⟩;rw[<-hl2];refine qbg h0 ?_;rw[<-hgo];generalize hG:VCode.seq (.block 1 (.ghost (.focC 4 2 [0,2,3,4,5]) (.region true 0 [0,2,3,4,5] qmo))) (.region false 0 [0,2,3,4,5] qpj)=G;rw[show qjh= .seq (.seq (.region false 0 [0,2,3,4,5,22] qj7) (.cond (.t 22) .skip (.exit 0))) G from by rw[<-hG];rfl];simp[qj7,hk,hks,hc,hBl,hB3,hRl,hR3,qad]
  ·refine⟨j,k,B,A,D,f,v,ks,N,h,qaG h0 ?_ (by simp)⟩
   have hk0:ks.length=0:=by omega
   simp[qjh,qj7,hk,hk0,hBl,hB3,hRl,hR3,qad]
end Go.Proofs.Ytfiakfiocdfpbaa.VS
namespace Go.Proofs.Ytfiakfiocdfpbaa.VS
theorem WS.read{bs:List Int}{j k:Nat}{B:qak}{A D:List T}{f v:Int}{ks:List T}{N:Nat}(h:WS bs j k B A D f v ks N){B':qak}(hl:B'.length=6)(hi:∀i,j<i->B'[i]?=B[i]?)(u:T)(g:Tag)(X:List DV)(hX:X.map DV.clr=u.kids.map (T.enc .sub))
 (hj:B'[j]?=some (some (qcL A (.d (.int .i64 u.f)) (.d (.int .i64 u.v)) (.d (.sl g X)) D))):
 ∃(c5:List AV) (ds5:List DV) (t':T),B'[5]?=some (some c5)/\qdA (AV.frzC (qch 2 B') 6) c5=some ds5/\ds5.map DV.clr=fcs [t']/\t'.inner<=N+u.inner/\(u.rng->t'.rng):=by
 refine h.ctx B' _ u (fc A++([.int .i64 u.f,.int .i64 u.v,.sl g X]++fc D)) hl hi hj ?_ ?_
 ·unfold qcL
  exact qf4 _ _ _ (qke _ _ _) (qf4 _ _ _ (qke _ _ [.int .i64 u.f,.int .i64 u.v,.sl g X]) (qke _ _ _))
 ·rw[List.map_append,List.map_append,qmX,qmX,qvg,qf9]
  simp only[List.map_cons,List.map_nil,DV.clr,DV.qap,hX,List.cons_append,List.nil_append]
theorem qDG(B:qak)(S0 Z:Option (List AV))(z0 z1 z2:AV)(hlen:B.length=6)(h0:B[0]?=some S0)(h1:B[1]?=some (some [z0,z1,z2]))(r:List (Nat×AV))(h2:lk r 2=some (.ptr 1 0))(h3:lk r 3=some (.ptr 5 0))(t:T)(c5:List AV)(ds5:List DV)
 (e1:B[5]?=some (some c5)) (e2:qdA (AV.frzC (qch 2 B) 6) c5=some ds5) (e3:ds5.map DV.clr=fcs [t]):
 ∃C,qax XV (XV.lin 161) (.seq (.ghost (.frzB 3 2 [2]) (.region false 0 [2] qk4)) .ret) ⟨r,B⟩=some (.ret,⟨[(2,.ptr 1 0)],[S0,some [.d (.int .i64 t.f),.d (.int .i64 t.v),.d (qau .sub t.kids)],C]⟩):=by
 have hk:keep r [2]=[(2,.ptr 1 0)]:=by simp[keep,h2]
 have htk:B.take 2=[S0,some [z0,z1,z2]]:=by
  match B,hlen with
  | [b0,b1,b2,b3,b4,b5],_=>simp at h0 h1⊢;exact⟨h0,h1⟩
 obtain⟨g,xs,r',rfl,hx,hr⟩:=qoo e3;have hr0:r'=[]:=by simpa[fcs]using hr
 subst hr0;have hcell:=qpR _ _ e3;have hbg:qaU B 5=some c5:=by simp only[qaU,e1]
 refine⟨some [.d (.int .i64 t.f),.d (.int .i64 t.v),.d (qau .sub t.kids)],?_⟩;have hx':xs.map DV.clr=t.kids.map (T.enc .sub):=by rw[<-DV.qap];exact hx
 have hgh:qnq (.frzB 3 2 [2]) ⟨r,B⟩=some ⟨[(3,.ptr 2 0),(2,.ptr 1 0)],[S0,some [z0,z1,z2],some [.d (.int .i64 t.f),.d (.int .i64 t.v),.d (qau .sub t.kids)]]⟩:=by
  rw[qyX];simp only[h3];rw[qu4,if_pos ⟨by omega,by simp,by rw[hk];simp[qaf],by omega⟩,hbg,Option.bind_some,hlen,e2,Option.bind_some,if_pos hcell,hk,htk];simp[hx']
 simp only[qdu,qnu,hgh,Option.bind_some];simp[qk4,splice,qaa,qae,qac,qan,qad]
end Go.Proofs.Ytfiakfiocdfpbaa.VS
namespace Go.Proofs.Ytfiakfiocdfpbaa.VS
def qlj:VCode:= .seq (.ghost (.frzB 3 2 [2]) (.region false 0 [2] qk4)) .ret
def qdG:VCode:= .seq (.region false 0 [0,2,3,4,38] qiw) (.block 2 (.seq (.region false 0 [0,2,3,4,38,39] qiv) (.cond (.t 39) (.region false 0 [2,3] qua) (.seq (.region false 0 [0,2,3,4,38,47] qgB) (.cond (.t 47) (.region false 0 [2,3] qoa) (.seq (.region false 0 [0,2,3,4,38,55] qix) (.cond (.t 55) (.regionT 0 [2,3] qk6 qfP) (.seq (.region false 0 [0,2,3,69] qk5) (.cond (.t 69) (.seq (.region false 0 [2] qn9) .ret) .skip)))))))))
theorem qzV:qBI=⟨1,[.cell 2 true 3],.seq (.region false 1 [0,2] que) (.seq (.region false 4 [0,2,3] qud) (.seq (.region false 0 [0,2,3,4] quc) (.seq (.seq (.region false 0 [0,2,3,4,5] qub) (.block 0 (.loop [0,2,3,4,5] qjh))) (.seq qdG qlj))))⟩:=rfl
def qBy(bs:List Int)(B:qak)(n:Nat):Prop:=B.length=6/\qbO bs 0 B/\B[1]?=some (some [.d (.int .i64 0),.d (.int .i64 0),.d (.sl U [])])/\
 ∃(c5:List AV) (ds5:List DV) (t':T),B[5]?=some (some c5)/\qdA (AV.frzC (qch 2 B) 6) c5=some ds5/\ds5.map DV.clr=fcs [t']/\t'.inner<=n/\t'.rng
theorem WS.read5{bs:List Int}{j k:Nat}{B:qak}{A D:List T}{f v:Int}{ks:List T}{N:Nat}(h:WS bs j k B A D f v ks N)(u:T)(g:Tag)(X:List DV)(hX:X.map DV.clr=u.kids.map (T.enc .sub))(n:Nat)(hn:N+u.inner<=n)(hur:u.rng):
 qBy bs (B.set j (some (qcL A (.d (.int .i64 u.f)) (.d (.int .i64 u.v)) (.d (.sl g X)) D))) n:=by
 have hj:=h.j2;have hjk:=h.jk;have hlen:=h.len;obtain⟨c5,ds5,t',e1,e2,e3,e4,e5⟩:=h.read (B':=B.set j (some (qcL A (.d (.int .i64 u.f)) (.d (.int .i64 u.v)) (.d (.sl g X)) D))) (by simp[hlen]) (fun i hi=>by rw[qfo (by omega)]) u g X hX (by rw[List.getElem?_set_self (by omega)]);refine⟨by simp[hlen],?_,by rw[qfo (by omega)];exact h.one,c5,ds5,t',e1,e2,e3,by omega,e5 hur⟩;obtain⟨pos,st,hp,hb⟩:=h.seed;exact⟨pos,st,hp,by simp only[qaU];rw[qfo (by omega),qda hb]⟩
theorem qiQ(ks:List T):(ks.map (T.enc U)).map DV.clr=ks.map (T.enc .sub):=qcm _ _
theorem qrt(bs:List Int)(hl:bs.length<=1099511627776){j k:Nat}{B:qak}{A D:List T}{f v:Int}{ks:List T}{N:Nat}(h:WS bs j k B A D f v ks N)(x5 x22:DV):
 (∃(r':List (Nat×AV)) (B':qak),qax XV (XV.lin 161) qdG ⟨[(0,.ptr 0 0),(2,.ptr 1 0),(3,.ptr 5 0),(4,.ptr j (A.length*3)),(5,.d x5),(22,.d x22)],B⟩=some (.normal,⟨r',B'⟩)/\lk r' 2=some (.ptr 1 0)/\lk r' 3=some (.ptr 5 0)/\qBy bs B' 12)\/
 (∃(t:T) (g:Tag) (B':qak),qax XV (XV.lin 161) qdG ⟨[(0,.ptr 0 0),(2,.ptr 1 0),(3,.ptr 5 0),(4,.ptr j (A.length*3)),(5,.d x5),(22,.d x22)],B⟩=some (.ret,⟨[(2,.ptr 1 0)],B'⟩)/\qbO bs 0 B'/\B'.length=6/\B'[1]?=some (some [.d (.int .i64 t.f),.d (.int .i64 t.v),.d (.sl g (t.kids.map (T.enc g)))])/\t.inner<=14/\t.rng):=by
 obtain⟨r,B1,hr,hT1,hc⟩:=qbw bs hl B 0 h.seed 12 (by omega) (by omega);have h1:=h.turn hT1;have hat:=h1.at_;have hjl:j<B1.length:=by have:=h1.jk;rw[h1.len];omega
 have hj2:=h.j2;have hjk:=h.jk;have hsz:=h.siz;have keepT:∀(B':qak),qb7 bs 0 B1 B'->B'[j]?=some (some (qcL A (.d (.int .i64 f)) (.d (.int .i64 v)) (.d (.sl U (ks.map (T.enc U)))) D)):=fun B' hT=>(h1.turn hT).at_
 by_cases c0:r=0
 ·subst c0
  obtain⟨i,hi,B2,hT2,hc2⟩:=qcX bs hl B1 0 h1.seed [-2,-1,0,5,7] (by simp) (by simp);generalize ([-2,-1,0,5,7]:List Int)[i]=x at hc2;have h2:=h1.turn hT2;have hat2:=h2.at_;have hl2:=h2.len;have hB2:∀h:j<B2.length,B2[j]'h=some (qcL A (.d (.int .i64 f)) (.d (.int .i64 v)) (.d (.sl U (ks.map (T.enc U)))) D):=fun h=>(List.getElem?_eq_some_iff.1 hat2).2
  have hrl:=qc4 A (.d (.int .i64 f)) (.d (.int .i64 v)) (.d (.sl U (ks.map (T.enc U)))) D;have hsp:=qAa A (.d (.int .i64 f)) (.d (.int .i64 v)) (.d (.sl U (ks.map (T.enc U)))) (.d (.int .i64 x)) D;have hle:A.length*3+1<=A.length*3+3+D.length*3:=by omega
  have hj6:j<6:=by omega
  have hin:∀a b:Int,(T.node a b ks).inner=(T.node f v ks).inner:=fun a b=>by simp only[T.inner]
  have hres:=h2.read5 (.node x v ks) U (ks.map (T.enc U)) (qiQ ks) 12 (by rw[hin];omega) ⟨h.rg.1,h.rg.2⟩;simp only[T.qdW,T.qer]at hres;refine .inl ⟨[(2,.ptr 1 0),(3,.ptr 5 0)],_,?_,rfl,rfl,hres⟩;simp only[List.map_cons,List.map_nil]at hc2;generalize qcL A (.d (.int .i64 f)) (.d (.int .i64 v)) (.d (.sl U (ks.map (T.enc U)))) D=R at*
  generalize qcL A (.d (.int .i64 x)) (.d (.int .i64 v)) (.d (.sl U (ks.map (T.enc U)))) D=R' at*
  simp[qdG,qiw,qiv,qua,hc,hc2,hl2,hB2,hj6,hrl,hsp,hle,qay,List.replicate,qaa,qac,qan,qbl]
 by_cases c1:r=1
 ·subst c1
  obtain⟨i,hi,B2,hT2,hc2⟩:=qcX bs hl B1 0 h1.seed [-1,1,99,100] (by simp) (by simp);have hxx:∀y:Int,y∈([-1,1,99,100]:List Int)->-9223372036854775808<=y/\y<=9223372036854775807:=fun y hy=>by
   simp only[List.mem_cons,List.not_mem_nil,or_false]at hy;omega
  have hxr:=hxx _ (List.getElem_mem hi);generalize ([-1,1,99,100]:List Int)[i]=x at hc2 hxr;have h2:=h1.turn hT2;have hat2:=h2.at_;have hl2:=h2.len;have hB2:∀h:j<B2.length,B2[j]'h=some (qcL A (.d (.int .i64 f)) (.d (.int .i64 v)) (.d (.sl U (ks.map (T.enc U)))) D):=fun h=>(List.getElem?_eq_some_iff.1 hat2).2
  have hrl:=qc4 A (.d (.int .i64 f)) (.d (.int .i64 v)) (.d (.sl U (ks.map (T.enc U)))) D;have hsp:=qz9 A (.d (.int .i64 f)) (.d (.int .i64 v)) (.d (.sl U (ks.map (T.enc U)))) (.d (.int .i64 x)) D;have hle:A.length*3+1+1<=A.length*3+3+D.length*3:=by omega
  have hj6:j<6:=by omega
  have hin:∀a b:Int,(T.node a b ks).inner=(T.node f v ks).inner:=fun a b=>by simp only[T.inner]
  have hres:=h2.read5 (.node f x ks) U (ks.map (T.enc U)) (qiQ ks) 12 (by rw[hin];omega) ⟨hxr,h.rg.2⟩;simp only[T.qdW,T.qer]at hres;refine .inl ⟨[(2,.ptr 1 0),(3,.ptr 5 0)],_,?_,rfl,rfl,hres⟩;simp only[List.map_cons,List.map_nil]at hc2;generalize qcL A (.d (.int .i64 f)) (.d (.int .i64 v)) (.d (.sl U (ks.map (T.enc U)))) D=R at*
  generalize qcL A (.d (.int .i64 f)) (.d (.int .i64 x)) (.d (.sl U (ks.map (T.enc U)))) D=R' at*
  simp[qdG,qiw,qiv,qgB,qoa,hc,hc2,hl2,hB2,hj6,hrl,hsp,hle,qay,List.replicate,qaa,qac,qan,qbl]
 have n0:(r==0)=false:=by simpa using c0
 have n1:(r==1)=false:=by simpa using c1
 by_cases c2:r=2
 ·subst c2
  have hs:=h1.seed;obtain⟨pos,st,hp,hb0⟩:=hs;obtain⟨t2,g2,B2,hi2,⟨pos2,st2,hp2,rfl⟩,hc2⟩:=qdt bs hl 1 (by omega) 2 (by omega) [some (qaZ bs pos st)] 0 ⟨pos,st,hp,rfl⟩;simp only[List.set_cons_zero]at hc2;have h2:=h1.turn (B':=B1.set 0 (some (qaZ bs pos2 st2))) ⟨pos2,st2,hp2,rfl⟩;have hl1:=h1.len;have hB1:∀h:j<B1.length,B1[j]'h=some (qcL A (.d (.int .i64 f)) (.d (.int .i64 v)) (.d (.sl U (ks.map (T.enc U)))) D):=fun h=>(List.getElem?_eq_some_iff.1 hat).2
  have hX:(ks.map (T.enc U)++[t2.enc g2]).map DV.clr=(T.node f v (ks++[t2])).kids.map (T.enc .sub):=by
   rw[List.map_append,qcm,T.qa0,List.map_append];simp
  have hin:N+(T.node f v (ks++[t2])).inner<=12:=by
   have e1:(T.node f v (ks++[t2])).inner=ks.length+1+(T.inners ks+(t2.inner+0)):=by
    rw[T.qgp,T.qa0,qfd];simp only[List.length_append,List.length_cons,List.length_nil,T.inners]
   have e2:(T.node f v ks).inner=ks.length+T.inners ks:=by rw[T.qgp,T.qa0]
   omega
  have hres:=h2.read5 (.node f v (ks++[t2])) U _ hX 12 hin ⟨h.rg.1,qkL h.rg.2 ⟨hi2.2,trivial⟩⟩;simp only[T.qdW,T.qer]at hres;have hj0:(0:Nat)≠j:=by omega
  have hkl:(ks.length+1)*40<=140737488355328:=by
   have e2:(T.node f v ks).inner=ks.length+T.inners ks:=by rw[T.qgp,T.qa0]
   omega
  have ha:qbc 3 40 (.sl U (ks.map (T.enc U))) (.sl .sub [t2.enc g2])=some (.sl U (ks.map (T.enc U)++[t2.enc g2])):=by
   unfold qbc;simp only;rw[if_pos (by simp[qaa,qae])];simp only[List.isEmpty_cons,Bool.false_eq_true,if_false];rw[if_pos ⟨by simpa using hkl,trivial,by simp⟩]
  have hrl:=qc4 A (.d (.int .i64 f)) (.d (.int .i64 v)) (.d (.sl .sub (ks.map (T.enc .sub)))) D;have hg2:=qoU A (.d (.int .i64 f)) (.d (.int .i64 v)) (.d (.sl U (ks.map (T.enc U)))) D;have hsp:=qsX A (.d (.int .i64 f)) (.d (.int .i64 v)) (.d (.sl .sub (ks.map (T.enc .sub)))) (.d (.sl U (ks.map (T.enc U)++[t2.enc g2]))) D;have hRl:A.length*3+2<(qcL A (.d (.int .i64 f)) (.d (.int .i64 v)) (.d (.sl U (ks.map (T.enc U)))) D).length:=by rw[qc4];omega
  have hclr:qcd B1 j (A.length*3+2) 1=B1.set j (some (qcL A (.d (.int .i64 f)) (.d (.int .i64 v)) (.d (.sl .sub (ks.map (T.enc .sub)))) D)):=by
   unfold qcd;simp only[qaU,hat];rw[List.drop_eq_getElem_cons hRl,(List.getElem?_eq_some_iff.1 hg2).2];simp only[List.take_succ_cons,List.take_zero,AV.clrs,AV.clr,DV.clr,DV.qap,qcm];rw[qsX]
  have hld:qad B1 false 1 j (A.length*3+2)=some (.d (.sl U (ks.map (T.enc U)))):=by
   simp only[qad,qaU,hat,Option.bind_some,Bool.false_eq_true,if_false,hg2]
  have heq:((B1.set j (some (qcL A (.d (.int .i64 f)) (.d (.int .i64 v)) (.d (.sl .sub (ks.map (T.enc .sub)))) D))).set 0 (some (qaZ bs pos2 st2))).set j (some (qcL A (.d (.int .i64 f)) (.d (.int .i64 v)) (.d (.sl U (ks.map (T.enc U)++[t2.enc g2]))) D))=(B1.set 0 (some (qaZ bs pos2 st2))).set j (some (qcL A (.d (.int .i64 f)) (.d (.int .i64 v)) (.d (.sl U (ks.map (T.enc U)++[t2.enc g2]))) D)):=by
   rw[List.set_comm _ _ (Ne.symm hj0),List.set_set]
  rw[<-heq]at hres;have hle:A.length*3+2+1<=A.length*3+3+D.length*3:=by omega
  have hj6:j<6:=by omega
  have hn6:¬6<=j:=by omega
  have hj0':¬j=0:=by omega
  refine .inl ⟨[(2,.ptr 1 0),(3,.ptr 5 0)],_,?_,rfl,rfl,hres⟩;have g0:(B1.set j (some (qcL A (.d (.int .i64 f)) (.d (.int .i64 v)) (.d (.sl .sub (ks.map (T.enc .sub)))) D)))[0]?=some (some (qaZ bs pos st)):=by rw[qfo (Ne.symm hj0),qda hb0]
  have gl:(B1.set j (some (qcL A (.d (.int .i64 f)) (.d (.int .i64 v)) (.d (.sl .sub (ks.map (T.enc .sub)))) D))).length=6:=by simp[hl1]
  have gj:((B1.set j (some (qcL A (.d (.int .i64 f)) (.d (.int .i64 v)) (.d (.sl .sub (ks.map (T.enc .sub)))) D))).set 0 (some (qaZ bs pos2 st2)))[j]?=some (some (qcL A (.d (.int .i64 f)) (.d (.int .i64 v)) (.d (.sl .sub (ks.map (T.enc .sub)))) D)):=by rw[qfo hj0,List.getElem?_set_self (by omega)]
  clear hres heq hat keepT hB1;generalize hR':qcL A (.d (.int .i64 f)) (.d (.int .i64 v)) (.d (.sl .sub (ks.map (T.enc .sub)))) D=R' at*
  generalize qcL A (.d (.int .i64 f)) (.d (.int .i64 v)) (.d (.sl U (ks.map (T.enc U)++[t2.enc g2]))) D=R'' at*
  generalize hB3:B1.set j (some R')=B3 at*
  have g0':∀h:0<B3.length,B3[0]'h=some (qaZ bs pos st):=fun h=>(List.getElem?_eq_some_iff.1 g0).2
  have hsd:=qeh bs pos st;have hsd1:=qeh bs pos2 st2;have hcl:=qcl bs pos st;have hcl1:=qcl bs pos2 st2;generalize qaZ bs pos st=S0 at*
  generalize qaZ bs pos2 st2=S1 at*
  have gj':∀h:j<(B3.set 0 (some S1)).length,(B3.set 0 (some S1))[j]'h=some R':=fun h=>(List.getElem?_eq_some_iff.1 gj).2
  have hc2':qai XV 166 [.ptr 0 0,.d (.int .i64 1),.d (.int .i64 2)] [some S0]=some (.d (t2.enc g2),[some S1]):=hc2;simp[qdG,qiw,qiv,qgB,qix,qBd,hc,hl1,gl,hn6,hj6,hld,hclr,hc2',g0',hsd,hsd1,hcl,hcl1,ha,hsp,hrl,hle,gj',gj,qay,List.replicate,qaa,qae,qac,qan,qbl,-qcd,-qad,lk,hj0']
 have n2:(r==2)=false:=by simpa using c2
 by_cases c3:r=3
 ·subst c3
  obtain⟨t2,g2,B2,hi2,hT2,hc2⟩:=qdt bs hl 3 (by omega) 3 (by omega) B1 0 h1.seed;have h2:=h1.turn hT2;have hl2:=h2.len;have h21:=h2.one;have hB21:∀h:1<B2.length,B2[1]'h=some [.d (.int .i64 0),.d (.int .i64 0),.d (.sl U [])]:=fun h=>(List.getElem?_eq_some_iff.1 h21).2
  obtain⟨f2,vw2,ks2⟩:=t2;obtain⟨pos2,st2,hp2,hb2⟩:=h2.seed;have hc2':qai XV 166 [.ptr 0 0,.d (.int .i64 3),.d (.int .i64 3)] B1=some (.d ((T.node f2 vw2 ks2).enc g2),B2):=hc2;refine .inr ⟨.node f2 vw2 ks2,g2,B2.set 1 (some [.d (.int .i64 f2),.d (.int .i64 vw2),.d (.sl g2 (ks2.map (T.enc g2)))]),?_,⟨pos2,st2,hp2,by simp only[qaU];rw[qfo (by omega),qda hb2]⟩,by simp[hl2],by rw[List.getElem?_set_self (by omega)];simp,by have:=hi2.1;simp at this;omega,hi2.2⟩;simp[qdG,qiw,qiv,qgB,qix,qk5,qn9,hc,hc2',hl2,hB21,splice,qaa,qae,qac,qan,qbl]
 have n3:(r==3)=false:=by simpa using c3
 have hin:qBy bs B1 12:=by
  have:=h1.read5 (.node f v ks) U (ks.map (T.enc U)) (qiQ ks) 12 (by omega) h.rg;simp only[T.qdW,T.qer]at this;rwa[show B1.set j (some (qcL A (.d (.int .i64 f)) (.d (.int .i64 v)) (.d (.sl U (ks.map (T.enc U)))) D))=B1 from by
   apply List.ext_getElem?;intro i
   by_cases hij:j=i
   ·subst hij;rw[List.getElem?_set_self',hat];simp
   ·rw[List.getElem?_set_ne hij]]at this
 refine .inl ⟨[(0,.ptr 0 0),(2,.ptr 1 0),(3,.ptr 5 0),(69,.d (.bool false))],B1,?_,rfl,rfl,hin⟩;simp[qdG,qiw,qiv,qgB,qix,qk5,hc,n0,n1,n2,n3]
end Go.Proofs.Ytfiakfiocdfpbaa.VS
namespace Go.Proofs.Ytfiakfiocdfpbaa.VS
theorem quJ(bs:List Int)(hl:bs.length<=1099511627776)(pos st:Int)(hp:0<=pos/\pos<=bs.length):
 ∃(t:T) (g:Tag) (pos' st':Int),(t.inner<=14/\t.rng)/\(0<=pos'/\pos'<=bs.length)/\qai XV 161 [.ptr 0 0] [some (qaZ bs pos st)]=some (.d (t.enc g),[some (qaZ bs pos' st')]):=by
 have hs0:qbO bs 0 [some (qaZ bs pos st),some [.d (.int .i64 0),.d (.int .i64 0),.d (.sl U [])],none,none,none,none]:=⟨pos,st,hp,rfl⟩;obtain⟨t0,B1,hi0,_,⟨pos1,st1,hp1,rfl⟩,hc⟩:=qm2 bs hl 3 (by omega) _ 0 hs0;simp only[List.set_cons_zero]at hc;obtain⟨f,v,ks⟩:=t0;have hW:WS bs 5 0 [some (qaZ bs pos1 st1),some [.d (.int .i64 0),.d (.int .i64 0),.d (.sl U [])],none,none,none,some [.d (.int .i64 f),.d (.int .i64 v),.d (.sl U (ks.map (T.enc U)))]] [] [] f v ks 0:=by
  refine⟨rfl,by omega,rfl,⟨pos1,st1,hp1,rfl⟩,rfl,fun i h1 h2=> ?_,rfl,fun rs hr=> ?_,Ctx.base _,by omega,hi0.2⟩
  ·rcases i with _|_|_|_|_|i<;>first|omega|rfl
  ·simp[qe5 rs hr bs pos1 st1,qey]
 obtain⟨j,k,B2,A,D,f',v',ks',N,hW2,hloop⟩:=qAw bs hl 3 5 0 _ [] [] f v ks 0 rfl hW ⟨[(0,.ptr 0 0),(2,.ptr 1 0),(3,.ptr 5 0),(4,.ptr 5 0),(5,.d (.int .i64 0))],[some (qaZ bs pos1 st1),some [.d (.int .i64 0),.d (.int .i64 0),.d (.sl U [])],none,none,none,some [.d (.int .i64 f),.d (.int .i64 v),.d (.sl U (ks.map (T.enc U)))]]⟩ (by simp[qal,qaf]);have hcase:=qrt bs hl hW2 (.int .i64 k) (.bool false);have start:∀q:Option (AV×qak),qCq 1 [.cell 2 true 3] (qax XV (XV.lin 161) (.seq qdG qlj) ⟨[(0,.ptr 0 0),(2,.ptr 1 0),(3,.ptr 5 0),(4,.ptr j (A.length*3)),(5,.d (.int .i64 k)),(22,.d (.bool false))],B2⟩)=q->qai XV 161 [.ptr 0 0] [some (qaZ bs pos st)]=q:=by
  intro q hq;rw[qrP XV _ _ _ qBI rfl qsl rfl (m:=1) rfl rfl,qzV];simp only[qgP,qjc,qcl];rw[<-hq];simp only[quC]at hloop⊢
  generalize VCode.seq qdG qlj=G;simp[que,qud,quc,qub,hc,splice,qaa,qae,qac,qan];rw[hloop];simp
 rcases hcase with⟨r',B',e1,e2,e3,hlen,⟨pos2,st2,hp2,hb⟩,hone,c5,ds5,t',q1,q2,q3,q4,q5⟩|⟨t,g,B',e1,⟨pos2,st2,hp2,hb⟩,hlen,hone,hi,hir⟩
 ·obtain⟨C,hf⟩:=qDG B' (some (qaZ bs pos2 st2)) none _ _ _ hlen (qda hb) hone r' e2 e3 t' c5 ds5 q1 q2 q3
  refine⟨t',.sub,pos2,st2,⟨by omega,q5⟩,hp2,start _ ?_⟩;rw[qdu,e1];simp only[qgX];unfold qlj;rw[hf];obtain⟨f2,vw2,ks2⟩:=t';simp[qad]
 ·refine⟨t,g,pos2,st2,⟨hi,hir⟩,hp2,start _ ?_⟩
  rw[qdu,e1];simp only[qlR];obtain⟨f2,vw2,ks2⟩:=t
  match B',hlen with
  | [b0,b1,b2,b3,b4,b5],_=>
   have hb0:=qda hb;simp at hb0 hone;subst hb0;subst hone
   simp[qad]
end Go.Proofs.Ytfiakfiocdfpbaa.VS
namespace Go.Proofs.Ytfiakfiocdfpbaa.VS
theorem qff(bs:List Int)(pos st:Int):qav (qaZ bs pos st)=some [.sl .sub (bs.map (.int .u8)),.int .i64 pos,.int .i64 st]:=by simp[qaZ]
end Go.Proofs.Ytfiakfiocdfpbaa.VS
namespace Go.Proofs.Ytfiakfiocdfpbaa.VS
end Go.Proofs.Ytfiakfiocdfpbaa.VS
namespace Go.Proofs.Ytfiakfiocdfpbaa.VS
end Go.Proofs.Ytfiakfiocdfpbaa.VS
namespace Go.Proofs.Ytfiakfiocdfpbaa.VS
end Go.Proofs.Ytfiakfiocdfpbaa.VS
namespace Go.Proofs.Ytfiakfiocdfpbaa.VS
end Go.Proofs.Ytfiakfiocdfpbaa.VS
namespace Go.Proofs.Ytfiakfiocdfpbaa.VS
def c00:Option (List AV):=some [.d (.int .i64 0),.d (.int .i64 0),.d (.sl U [])]
end Go.Proofs.Ytfiakfiocdfpbaa.VS
namespace Go.Proofs.Ytfiakfiocdfpbaa.VS
theorem quH(bs:List Int)(hl:bs.length<=1099511627776):∃(l:List SymL) (g:Tag) (t:T),SigD l/\(t.inner<=14/\t.rng)/\qai XV 194 [.d (.sl .sub (bs.map (.int .u8)))] []=some (.d (.tup [.sl g (l.map SymL.enc),t.enc .sub]),[]):=by
 obtain⟨st,h1⟩:=qle bs hl [c00];obtain⟨t,g,p1,s1,ht,hp1,hc1⟩:=quJ bs hl 0 st ⟨Int.le_refl _,by omega⟩;obtain⟨f,v,ks⟩:=t;obtain⟨b,B2,⟨p2,s2,hp2,rfl⟩,hc2⟩:=qiB bs hl [c00,some (qaZ bs p1 s1),some [.d (.int .i64 f),.d (.int .i64 v),.d (qau g ks)]] 1 ⟨p1,s1,hp1,rfl⟩ 8 (by omega) (by omega);simp[c00]at h1 hc2;cases b with
 |true=>
  obtain⟨l,g',p3,s3,hD,hp3,hc3⟩:=quL bs hl p2 s2 hp2;refine⟨l,g',.node f v ks,hD,ht,?_⟩;have hqc:(l.map SymL.enc).map DV.clr=l.map SymL.enc:=qdv _;generalize l.map SymL.enc=sq at*
  rw[qaE XV _ _ _ qx7 rfl qlL rfl];simp[qx7,qth,qtg,qtf,qte,qy6,qy5,h1,hc1,hc2,hc3,hqc,qff,qcl,splice,qaa,qae,qac,qan,qad]
 |false=>
  refine⟨qcB,U,.node f v ks,qfK,ht,?_⟩;have hs:=qfY;generalize hsq:qcB.map SymL.enc=sq at hs⊢
  have hqc:sq.map DV.clr=sq:=by rw[<-hsq];exact qdv _
  rw[qaE XV _ _ _ qx7 rfl qlL rfl];simp[qx7,qth,qtg,qtf,qte,qy6,qy5,h1,hc1,hc2,hs,hqc,qff,qcl,splice,qaa,qae,qac,qan,qad]
theorem qos(bs:List Int)(hl:bs.length<=1099511627776):∃(l:List SymL) (g:Tag) (t:T),SigD l/\t.inner<=14/\qai XV 190 [.d (.sl .sub (bs.map (.int .u8)))] []=some (.d (.tup [.sl g (l.map SymL.enc),t.enc .sub]),[]):=by
 obtain⟨st,h1⟩:=qle bs hl [c00];obtain⟨b,B2,⟨p2,s2,hp2,rfl⟩,hc2⟩:=qiB bs hl [c00,some (qaZ bs 0 st)] 1 ⟨0,st,⟨Int.le_refl _,by omega⟩,rfl⟩ 2 (by omega) (by omega);simp[c00]at h1 hc2;cases b with
 |true=>
  obtain⟨t,g,B3,ht,⟨p3,s3,hp3,rfl⟩,hc3⟩:=qdt bs hl 3 (by omega) 2 (by omega) [c00,some (qaZ bs p2 s2)] 1 ⟨p2,s2,hp2,rfl⟩;obtain⟨f,v,ks⟩:=t;refine⟨qcB,U,.node f v ks,qfK,by have:=ht.1;omega,?_⟩;have hs:=qfY;generalize hsq:qcB.map SymL.enc=sq at hs⊢
  have hqc:sq.map DV.clr=sq:=by rw[<-hsq];exact qdv _
  simp[c00]at hc3;rw[qaE XV _ _ _ qx8 rfl qlM rfl];simp[qx8,qts,qtr,qtq,qtp,qto,qy7,h1,hc2,hc3,hs,hqc,qff,qcl,splice,qaa,qae,qac,qan,qad]
 |false=>
  obtain⟨l,g,t,hD,ht,h⟩:=quH bs hl;refine⟨l,g,t,hD,ht.1,?_⟩;obtain⟨f,v,ks⟩:=t;have hqc:(l.map SymL.enc).map DV.clr=l.map SymL.enc:=qdv _;generalize l.map SymL.enc=sq at*
  rw[qaE XV _ _ _ qx8 rfl qlM rfl];simp[qx8,qts,qtr,qtq,qtp,qto,qy7,h1,hc2,h,hqc,qff,qcl,splice,qaa,qae,qac,qan,qad]
end Go.Proofs.Ytfiakfiocdfpbaa.VS
namespace Go.Proofs.Ytfiakfiocdfpbaa.VS
def e3(t:T):List AV:=[.d (.int .i64 t.f),.d (.int .i64 t.v),.d (qau U t.kids)]
def e3'(t:T):List AV:=[.d (.int .i64 t.f),.d (.int .i64 t.v),.d (qau .sub t.kids)]
def kc(l:List T):List AV:=(l.map e3).flatten
def qBW(cs:List (List AV)):Prop:=∀c,c∈cs->c.length=3
theorem qlz(l:List T):qBW (l.map e3):=fun c hc=>by
 obtain⟨t,_,rfl⟩:=List.mem_map.1 hc;rfl
theorem qly{cs:List (List AV)}(h:qBW cs)(p:Nat)(x:List AV)(hx:x.length=3):qBW (cs.set p x):=fun c hc=>by
 rcases List.mem_or_eq_of_mem_set hc with h1|h1
 ·exact h c h1
 ·rw[h1,hx]
theorem qeR:∀{cs:List (List AV)},qBW cs->cs.flatten.length=cs.length*3
 | [],_=>rfl
 |c::r,h=>by
  have:=qeR (cs:=r) (fun x hx=>h x (by simp[hx]));have hc:=h c (by simp);simp only[List.flatten_cons,List.length_append,List.length_cons,this,hc];omega
theorem qf8:∀{cs:List (List AV)} (_:qBW cs) (p:Nat) (hp:p<cs.length),(cs.flatten.drop (p*3)).take 3=cs[p]
 |c::r,h,0,hp=>by
  have hc:=h c (by simp);simp only[Nat.zero_mul,List.drop_zero,List.flatten_cons,List.getElem_cons_zero];rw[List.take_append_of_le_length (by omega),List.take_of_length_le (by omega)]
 |c::r,h,p+1,hp=>by
  have hc:=h c (by simp);have:=qf8 (cs:=r) (fun x hx=>h x (by simp[hx])) p (by simpa using hp);simp only[List.flatten_cons,List.getElem_cons_succ];rw[List.drop_append,List.drop_of_length_le (by omega),List.nil_append,show(p+1)*3-c.length=p*3 by omega];exact this
theorem qcY:∀{cs:List (List AV)} (_:qBW cs) (p:Nat) (hp:p<cs.length) (x:List AV) (hx:x.length=3),splice cs.flatten (p*3) x=(cs.set p x).flatten
 |c::r,h,0,hp,x,hx=>by
  have hc:=h c (by simp);unfold splice;simp only[Nat.zero_mul,List.take_zero,List.nil_append,Nat.zero_add,List.flatten_cons,List.set_cons_zero];rw[hx,List.drop_append,List.drop_of_length_le (by omega),List.nil_append,show 3-c.length=0 by omega,List.drop_zero]
 |c::r,h,p+1,hp,x,hx=>by
  have hc:=h c (by simp);have:=qcY (cs:=r) (fun y hy=>h y (by simp[hy])) p (by simpa using hp) x hx;unfold splice at this⊢
  simp only[List.flatten_cons,List.set_cons_succ];rw[List.take_append,List.take_of_length_le (l:=c) (by omega),List.drop_append,List.drop_of_length_le (l:=c) (by omega),List.nil_append,show(p+1)*3-c.length=p*3 by omega,show(p+1)*3+x.length-c.length=p*3+x.length by omega,<-this];simp only[List.append_assoc]
theorem qf0(l:List T):(kc l).length=l.length*3:=by unfold kc;rw[qeR (qlz l),List.length_map]
theorem quQ:∀l:List T,kc l=qkK (l.map (T.enc U))
 | []=>rfl
 |t::r=>by
  have h:=quQ r;unfold qkK kc at h⊢
  simp[e3,flat]at h⊢
  exact h
def swp(l:List T)(p q:Nat):List T:=(l.set q (tAt l p)).set p (tAt l q)
theorem qe7(l:List T)(p q:Nat)(hp:p<l.length)(hq:q<l.length)(hpq:p≠q):∃c1 c2 c3:List AV,c1.length=l.length*3/\c2.length=l.length*3/\c3.length=l.length*3/\
 ((kc l).drop (p*3)).take 3=e3 (tAt l p)/\splice (kc l) (p*3) (e3' (tAt l p))=c1/\(c1.drop (q*3)).take 3=e3 (tAt l q)/\splice c1 (q*3) (e3' (tAt l q))=c2/\splice c2 (q*3) (e3 (tAt l p))=c3/\splice c3 (p*3) (e3 (tAt l q))=kc (swp l p q):=by
 have h0:=qlz l;have h1:=qly h0 p (e3' (tAt l p)) rfl;have h2:=qly h1 q (e3' (tAt l q)) rfl;have h3:=qly h2 q (e3 (tAt l p)) rfl;refine⟨_,_,_,?_,?_,?_,?_,qcY h0 p (by simpa using hp) _ rfl,?_,qcY h1 q (by simpa using hq) _ rfl,qcY h2 q (by simpa using hq) _ rfl,?_⟩
 ·rw[qeR h1];simp
 ·rw[qeR h2];simp
 ·rw[qeR h3];simp
 ·unfold kc;rw[qf8 h0 p (by simpa using hp)];simp[qaO hp]
 ·rw[qf8 h1 q (by simpa using hq),List.getElem_set_ne hpq];simp[qaO hq]
 ·rw[qcY h3 p (by simpa using hp) _ rfl]
  unfold kc swp
  congr 1
  rw[List.map_set,List.map_set];apply List.ext_getElem (by simp);intro k k1 k2;simp only[List.getElem_set,List.getElem_map]
  by_cases e1:p=k
  ·subst e1;simp
  ·by_cases e2:q=k
   ·subst e2;simp[e1]
   ·simp[e1,e2]
theorem qhs(t:T):e3 t=[.d (.int .i64 t.f),.d (.int .i64 t.v),.d (qau U t.kids)]:=rfl
theorem qlm(t:T):e3' t=[.d (.int .i64 t.f),.d (.int .i64 t.v),.d (qau .sub t.kids)]:=rfl
theorem qzZ(l:List T)(i:Nat)(hn:l.length<=1099511627776)(hl:i+1<l.length)(x1 x2 x3 x8:AV)(h1:x1.clr=x1)(h2:x2.clr=x2):
 qax XV [46,50] (.region true 0 [0,1,2,3,8,9] qpa) ⟨[(0,.tsl true 0 3 l.length),(1,x1),(2,x2),(3,x3),(8,x8),(9,.d (.int .i64 ((i+1:Nat):Int))),(34,.d (.bool true))],[some (kc l)]⟩=some (.normal,⟨[(0,.tsl true 0 3 l.length),(1,x1),(2,x2),(3,x3),(8,x8),(9,.d (.int .i64 ((i+1:Nat):Int)))],[some (kc (swp l i (i+1)))]⟩):=by
 have hw:IntKind.i64.wrap (((i+1:Nat):Int)-1)=(i:Int):=by rw[show((i+1:Nat):Int)-1=(i:Int)by omega];exact wrap_i64 (by omega) (by omega)
 obtain⟨c1,c2,c3,l1,l2,l3,f1,f2,f3,f4,f5,f6⟩:=qe7 l i (i+1) (by omega) hl (by omega);have l0:=qf0 l;generalize kc (swp l i (i+1))=c4 at f6⊢
 generalize kc l=c0 at f1 f2 l0⊢
 generalize hn':l.length=n at*
 have hj0:(0:Int)<=((i+1:Nat):Int)/\((i+1:Nat):Int)<n:=⟨by omega,by omega⟩;have hjn:((i+1:Nat):Int).toNat=i+1:=rfl;have hi0:(i:Int)<n:=by omega
 have le0:i*3+3<=n*3:=by omega
 have le1:(i+1)*3+3<=n*3:=by omega
 generalize ((i+1:Nat):Int)=J at hw hj0 hjn⊢
 simp only[qhs,qlm,qau]at f1 f2 f3 f4 f5 f6;have hcls:∀x y z:AV,AV.clrs [x,y,z]=[x.clr,y.clr,z.clr]:=fun x y z=>by simp only[AV.clrs]
 simp[qy8,hw,hj0,hjn,hi0,l0,l1,l2,l3,f1,f2,f3,f4,f5,f6,le0,le1,hcls,qac,qaa,qae,qan]
end Go.Proofs.Ytfiakfiocdfpbaa.VS
namespace Go.Proofs.Ytfiakfiocdfpbaa.VS
theorem qoy(a b c d e f:Int)(B:qak)(hB:B.length=3):
 qbp XV [] 3 [2,3,26,27,28] qrE ⟨[(2,.ptr 1 0),(3,.ptr 2 0),(26,.d (.sl .sub (qri a b c d e f))),(27,.d (.int .i64 3)),(28,.d (.int .i64 0))],B⟩=
  some (match runN (qh7 a b c d e f) 3 () 0 with
   | .inl _=>(.exit 0,⟨[(2,.ptr 1 0),(3,.ptr 2 0),(26,.d (.sl .sub (qri a b c d e f))),(27,.d (.int .i64 3)),(28,.d (.int .i64 3)),(29,.d (.bool false))],B⟩)
   | .inr r=>(.ret,⟨[(4,.d (.int .i64 r.1))],B++[some [.d (.int .i64 r.2.1),.d (.int .i64 r.2.2)]]⟩)):=by
 obtain⟨z,x0,x1,rfl⟩:∃z x0 x1,B=[z,x0,x1]:=by
  match B,hB with
  | [z,x0,x1],_=>exact⟨z,x0,x1,rfl⟩
 have key:=qa2 (X:=XV) (T:=[]) (L:=3) (live:=[2,3,26,27,28]) (b:=qrE) (n:=3) (γ:=Int×(Int×Int)) (st:=fun(_:Unit) i=>⟨[(2,.ptr 1 0),(3,.ptr 2 0),(26,.d (.sl .sub (qri a b c d e f))),(27,.d (.int .i64 3)),(28,.d (.int .i64 i))],[z,x0,x1]⟩) (step:=qh7 a b c d e f)
  (F:=fun _=>(.exit 0,⟨[(2,.ptr 1 0),(3,.ptr 2 0),(26,.d (.sl .sub (qri a b c d e f))),(27,.d (.int .i64 3)),(28,.d (.int .i64 3)),(29,.d (.bool false))],[z,x0,x1]⟩)) (R:=fun r=>(.ret,⟨[(4,.d (.int .i64 r.1))],[z,x0,x1]++[some [.d (.int .i64 r.2.1),.d (.int .i64 r.2.2)]]⟩))
  (fun _=>⟨by simp,by simp[qrE,qw7]⟩)
  (fun _ i hi=>by
   have hw:=qaF (n:=i) (by omega);have hi':(i:Int)<3:=by omega
   have hb:=qp1 a b c d e f i hi;unfold qh7;generalize qeL a b c d e f i=q at hb;obtain⟨x,y⟩:=q;simp only at hb⊢
   by_cases h1:x<y
   ·rw[if_pos h1]
    refine⟨by simp,?_⟩;simp[qrE,qw7,qAf,qAe,qAd,hi',hb,cut,h1,qaa,splice,qad,qac,qan]
   ·rw[if_neg h1]
    by_cases h2:x>y
    ·rw[if_pos h2]
     refine⟨by simp,?_⟩;simp[qrE,qw7,qAf,qAe,qAd,qCI,qCH,hi',hb,cut,h1,h2,qaa,splice,qad,qac,qan]
    ·rw[if_neg h2]
     refine⟨_,by simp[qrE,qw7,qAf,qAe,qAd,qCI,qCH,qFB,hi',hb,cut,h1,h2,hw,qaa,splice,qad,qac,qan];rfl,?_⟩;simp[qal,qaf])
  3 () 0 ⟨[(2,.ptr 1 0),(3,.ptr 2 0),(26,.d (.sl .sub (qri a b c d e f))),(27,.d (.int .i64 3)),(28,.d (.int .i64 0))],[z,x0,x1]⟩ (by omega) (by simp[qal,qaf])
 rw[key];cases runN (qh7 a b c d e f) 3 () 0<;>rfl
theorem qox(z:Option (List AV))(f v:Int)(ks:List T)(f' v':Int)(ks':List T)(hl:ks.length<=1099511627776)(hlen:ks.length=ks'.length)
 (hrec:∀s s',s∈ks->s'∈ks'->qai XV 6 [.d (s.enc .sub),.d (s'.enc .sub)] []=some (.d (.int .i64 (T.cmp s s')),[])):
 qbp XV [] 3 [2,3,47,48] qv2 ⟨[(2,.ptr 1 0),(3,.ptr 2 0),(47,.d (.int .i64 ks.length)),(48,.d (.int .i64 0))],z::qdX f v ks f' v' ks'⟩=
  some (if T.cmps ks ks'=0 then(.exit 3,⟨[(2,.ptr 1 0),(3,.ptr 2 0),(47,.d (.int .i64 ks.length)),(48,.d (.int .i64 ks.length)),(49,.d (.bool false))],z::qdX f v ks f' v' ks'⟩)else(.ret,⟨[(4,.d (.int .i64 (T.cmps ks ks')))],z::qdX f v ks f' v' ks'⟩)):=by
 have h:=qa2 (X:=XV) (T:=[]) (L:=3) (live:=[2,3,47,48]) (b:=qv2) (n:=ks.length) (γ:=Int) (st:=fun(_:Unit) i=>⟨[(2,.ptr 1 0),(3,.ptr 2 0),(47,.d (.int .i64 ks.length)),(48,.d (.int .i64 i))],z::qdX f v ks f' v' ks'⟩) (step:=qjw ks ks')
  (F:=fun _=>(.exit 3,⟨[(2,.ptr 1 0),(3,.ptr 2 0),(47,.d (.int .i64 ks.length)),(48,.d (.int .i64 ks.length)),(49,.d (.bool false))],z::qdX f v ks f' v' ks'⟩)) (R:=fun r=>(.ret,⟨[(4,.d (.int .i64 r))],z::qdX f v ks f' v' ks'⟩))
  (fun _=>⟨by simp,by simp[qv2,qnU]⟩)
  (fun _ i hi=>by
   have hw:=qaF (n:=i) (by omega);have hi2:i<ks'.length:=by omega
   have hc:=hrec _ _ (qaJ hi) (qaJ hi2);unfold qjw qdX
   by_cases h0:T.cmp (tAt ks i) (tAt ks' i)=0
   ·rw[h0]at hc⊢
    simp only[ne_eq,not_true_eq_false,if_false];refine⟨_,by simp[qv2,qnU,qs8,qxC,qs7,qs6,qs5,hi,hi2,hw,cut,qaO hi,qaO hi2,hc,qad];rfl,?_⟩;simp[qal,qaf]
   ·simp only[ne_eq,h0,not_false_eq_true,if_true]
    have h0':(T.cmp (tAt ks i) (tAt ks' i) !=0)=true:=by simp[h0]
    refine⟨by simp,?_⟩;simp[qv2,qnU,qs8,qxC,qs7,qs6,qs5,hi,hi2,hw,cut,qaO hi,qaO hi2,hc,qad,h0'])
  ks.length () 0 ⟨[(2,.ptr 1 0),(3,.ptr 2 0),(47,.d (.int .i64 ks.length)),(48,.d (.int .i64 0))],z::qdX f v ks f' v' ks'⟩ (by omega) (by simp[qal,qaf,qdX])
 rw[qCG ks ks' hlen _ _ (by omega)]at h;simp only[List.drop_zero]at h;rw[h]
 by_cases h0:T.cmps ks ks'=0<;>simp[h0]
theorem qow(z:Option (List AV))(f v:Int)(ks:List T)(f' v':Int)(ks':List T)(hl:ks.length<=1099511627776)(hl':ks'.length<=1099511627776)
 (hrec:∀s s',s∈ks->s'∈ks'->qai XV 6 [.d (s.enc .sub),.d (s'.enc .sub)] []=some (.d (.int .i64 (T.cmp s s')),[])):
 qai XV 6 [.d ((T.node f v ks).enc .sub),.d ((T.node f' v' ks').enc .sub)] [z]=some (.d (.int .i64 (T.cmp (.node f v ks) (.node f' v' ks'))),[z]):=by
 rw[qaE XV _ _ _ v6 rfl qr7 rfl];have h1:=qoy f f' v v' ks.length ks'.length (z::qdX f v ks f' v' ks') rfl;simp[v6,qFD,qFC,qaa,qae,qac,qan,splice,qad,qay,List.replicate];simp only[qri,qdX]at h1;rw[h1,qhV];rcases qGQ f f' v v' ks.length ks'.length with⟨h3,e1,e2,e3⟩|⟨r,h3,h4⟩
 ·rw[h3]
  have hlen:ks.length=ks'.length:=by omega
  have h2:=qox z f v ks f' v' ks' hl hlen hrec;simp only[qdX]at h2;subst e1;subst e2
  simp[qFA,qad];rw[h2];have h5:qm6 f f v v ks.length ks'.length (T.cmps ks ks')=T.cmps ks ks':=by simp[qm6,hlen]
  rw[h5]
  by_cases c7:T.cmps ks ks'=0
  ·simp[c7,qAg]
  ·simp[c7]
 ·rw[h3,h4];simp
theorem qej(z:Option (List AV))(a b:T)(ha:a.inner<=1099511627776)(hb:b.inner<=1099511627776):qai XV 6 [.d (a.enc .sub),.d (b.enc .sub)] [z]=some (.d (.int .i64 (T.cmp a b)),[z]):=by
 obtain⟨f,v,ks⟩:=a;obtain⟨f',v',ks'⟩:=b;simp only[T.inner]at ha hb;exact qow z f v ks f' v' ks' (by omega) (by omega) (fun s s' hs hs'=>qgO s s' (by have:=T.qaV hs;omega) (by have:=T.qaV hs';omega))
end Go.Proofs.Ytfiakfiocdfpbaa.VS
namespace Go.Proofs.Ytfiakfiocdfpbaa.VS
theorem qnH(A Z:List T)(x:T):tAt (A++x::Z) A.length=x:=by simp[tAt]
theorem qkE(A M Z:List T)(x y:T)(q:Nat)(hq:q=A.length+1+M.length):swp (A++x::(M++y::Z)) A.length q=A++y::(M++x::Z):=by
 subst hq;have h1:tAt (A++x::(M++y::Z)) (A.length+1+M.length)=y:=by
  have:=qnH (A++x::M) Z y;simp only[List.length_append,List.length_cons,List.append_assoc,List.cons_append]at this;rw[show A.length+1+M.length=A.length+(M.length+1)by omega];exact this
 have h2:=qnH A (M++y::Z) x;unfold swp;rw[h1,h2];have s1:(A++x::(M++y::Z)).set (A.length+1+M.length) x=A++x::(M++x::Z):=by
  have:=List.set_append_right (s:=A++x::M) (t:=y::Z) (A.length+1+M.length) x (by simp;omega);simp only[List.append_assoc,List.cons_append,List.length_append,List.length_cons]at this;rw[this,show A.length+1+M.length-(A.length+(M.length+1))=0 by omega];rfl
 rw[s1,List.set_append_right _ _ (Nat.le_refl _),Nat.sub_self];rfl
theorem qoQ(l:List T)(p q:Nat)(h:p≠q):swp l p q=swp l q p:=by
 unfold swp;rw[List.set_comm _ _ h]
theorem qzY(l:List T)(a b i:Nat)(n:Int)(hn:l.length<=1099511627776)(ha:a+i<l.length)(hb:b+i<l.length)(hab:b≠a):
 qax XV [29,35] (.region true 0 [0,1,2,3,10] qo3) ⟨[(0,.tsl true 0 3 l.length),(1,.d (.int .i64 a)),(2,.d (.int .i64 b)),(3,.d (.int .i64 n)),(10,.d (.int .i64 i)),(13,.d (.bool true))],[some (kc l)]⟩=some (.normal,⟨[(0,.tsl true 0 3 l.length),(1,.d (.int .i64 a)),(2,.d (.int .i64 b)),(3,.d (.int .i64 n)),(10,.d (.int .i64 i))],[some (kc (swp l (b+i) (a+i)))]⟩):=by
 have hwa:IntKind.i64.wrap ((a:Int)+i)=((a+i:Nat):Int):=by rw[wrap_i64 (by omega) (by omega)];omega
 have hwb:IntKind.i64.wrap ((b:Int)+i)=((b+i:Nat):Int):=by rw[wrap_i64 (by omega) (by omega)];omega
 obtain⟨c1,c2,c3,l1,l2,l3,f1,f2,f3,f4,f5,f6⟩:=qe7 l (b+i) (a+i) hb ha (by omega);have l0:=qf0 l;generalize kc (swp l (b+i) (a+i))=c4 at f6⊢
 generalize kc l=c0 at f1 f2 l0⊢
 generalize hn':l.length=m at*
 have hj0:(0:Int)<=((a+i:Nat):Int)/\((a+i:Nat):Int)<m:=⟨by omega,by omega⟩;have hk0:(0:Int)<=((b+i:Nat):Int)/\((b+i:Nat):Int)<m:=⟨by omega,by omega⟩;have hjn:((a+i:Nat):Int).toNat=a+i:=rfl;have hkn:((b+i:Nat):Int).toNat=b+i:=rfl;have le0:(a+i)*3+3<=m*3:=by omega
 have le1:(b+i)*3+3<=m*3:=by omega
 generalize ((a+i:Nat):Int)=J at hwa hj0 hjn⊢
 generalize ((b+i:Nat):Int)=K at hwb hk0 hkn⊢
 simp only[qhs,qlm,qau]at f1 f2 f3 f4 f5 f6;have hcls:∀x y z:AV,AV.clrs [x,y,z]=[x.clr,y.clr,z.clr]:=fun x y z=>by simp only[AV.clrs]
 simp[qD3,hwa,hwb,hj0,hjn,hk0,hkn,l0,l1,l2,l3,f1,f2,f3,f4,f5,f6,le0,le1,hcls,qac,qaa,qae,qan]
def srS(A P Q R Z:List T)(i:Nat):List T:=A++R.take i++P.drop i++Q++P.take i++R.drop i++Z
theorem qz0(A P Q R Z:List T)(i:Nat)(h:P.length=R.length):(srS A P Q R Z i).length=(A++P++Q++R++Z).length:=by simp[srS];omega
theorem qwQ(A P Q R Z:List T)(i:Nat)(h:P.length=R.length)(hi:i<P.length):swp (srS A P Q R Z i) (A.length+P.length+Q.length+i) (A.length+i)=srS A P Q R Z (i+1):=by
 have hi2:i<R.length:=by omega
 have e0:srS A P Q R Z i=(A++R.take i)++P[i]::((P.drop (i+1)++Q++P.take i)++R[i]::(R.drop (i+1)++Z)):=by
  unfold srS;rw[List.drop_eq_getElem_cons hi,List.drop_eq_getElem_cons hi2];simp only[List.append_assoc,List.cons_append,List.nil_append]
 have e1:srS A P Q R Z (i+1)=(A++R.take i)++R[i]::((P.drop (i+1)++Q++P.take i)++P[i]::(R.drop (i+1)++Z)):=by
  unfold srS;rw[<-List.take_append_getElem hi,<-List.take_append_getElem hi2];simp only[List.append_assoc,List.cons_append,List.nil_append]
 have hl:(A++R.take i).length=A.length+i:=by simp;omega
 rw[e0,e1,qoQ _ _ _ (by omega),<-hl];exact qkE _ _ _ _ _ _ (by simp;omega)
theorem qlV(A P Q R Z:List T)(h:P.length=R.length)(hn:(A++P++Q++R++Z).length<=1099511627776)(f:AV)(hf:f.clr=f):
 qai XV 175 [.tsl true 0 3 (A++P++Q++R++Z).length,.d (.int .i64 A.length),.d (.int .i64 (A.length+P.length+Q.length:Nat)),.d (.int .i64 P.length),f] [some (kc (A++P++Q++R++Z))]=some (.d (.tup []),[some (kc (A++R++Q++P++Z))]):=by
 rw[qaE XV _ _ _ qBD rfl qsf rfl];have hlen:∀i,(srS A P Q R Z i).length=(A++P++Q++R++Z).length:=fun i=>qz0 A P Q R Z i h
 have e0:srS A P Q R Z 0=A++P++Q++R++Z:=by simp[srS]
 have e1:srS A P Q R Z P.length=A++R++Q++P++Z:=by
  unfold srS;rw[List.drop_of_length_le (l:=R) (by omega),List.take_of_length_le (l:=R) (by omega)];simp
 rw[<-e0,<-e1];generalize hN:(A++P++Q++R++Z).length=N at hn hlen;have hN2:N=A.length+P.length+Q.length+R.length+Z.length:=by rw[<-hN];simp;omega
 rw[hlen 0];have hloop:=qa2 (X:=XV) (T:=[29,35]) (L:=1) (live:=[0,1,2,3,10]) (b:=qp9) (n:=P.length) (γ:=Unit) (st:=fun(_:Unit) i=>⟨[(0,.tsl true 0 3 N),(1,.d (.int .i64 A.length)),(2,.d (.int .i64 (A.length+P.length+Q.length:Nat))),(3,.d (.int .i64 P.length)),(10,.d (.int .i64 i))],[some (kc (srS A P Q R Z i))]⟩) (step:=fun _ _=> .inl ())
  (F:=fun _=>(.exit 0,⟨[(0,.tsl true 0 3 N),(1,.d (.int .i64 A.length)),(2,.d (.int .i64 (A.length+P.length+Q.length:Nat))),(3,.d (.int .i64 P.length)),(10,.d (.int .i64 P.length)),(13,.d (.bool false))],[some (kc (srS A P Q R Z P.length))]⟩)) (R:=fun _=>(.ret,⟨[],[]⟩))
  (fun _=>⟨by simp,by simp[qp9,qtu]⟩)
  (fun _ i hi=>by
   have hw:=qaF (n:=i) (by omega);have hs:=qzY (srS A P Q R Z i) A.length (A.length+P.length+Q.length) i P.length (by rw[hlen];exact hn) (by rw[hlen];omega) (by rw[hlen];omega) (by omega);rw[qwQ A P Q R Z i h hi,hlen]at hs;have hi':(i:Int)<P.length:=by omega
   generalize hc2:kc (srS A P Q R Z (i+1))=c2 at hs;generalize kc (srS A P Q R Z i)=c1 at hs⊢
   exact⟨⟨[(0,.tsl true 0 3 N),(1,.d (.int .i64 A.length)),(2,.d (.int .i64 (A.length+P.length+Q.length:Nat))),(3,.d (.int .i64 P.length)),(10,.d (.int .i64 (i+1:Nat)))],[some c2]⟩,by
    simp[qp9,qtu,qyi,hi];simp only[Int.natCast_add]at hs;rw[hs];simp[hw],by simp[qal,qaf,qaK,hc2]⟩)
  P.length () 0 ⟨[(0,.tsl true 0 3 N),(1,.d (.int .i64 A.length)),(2,.d (.int .i64 (A.length+P.length+Q.length:Nat))),(3,.d (.int .i64 P.length)),(10,.d (.int .i64 0))],[some (kc (srS A P Q R Z 0))]⟩ (by omega) (by simp[qal,qaf,qaK])
 rw[qjN]at hloop;generalize kc (srS A P Q R Z P.length)=c2 at hloop⊢
 generalize kc (srS A P Q R Z 0)=c1 at hloop⊢
 generalize ((A.length+P.length+Q.length:Nat):Int)=K at hloop⊢
 simp[qBD,qyj,hf];rw[hloop];simp
end Go.Proofs.Ytfiakfiocdfpbaa.VS
namespace Go.Proofs.Ytfiakfiocdfpbaa.VS
theorem qev(A P Q R Z:List T)(a b n N:Nat)(ha:a=A.length)(hb:b=A.length+P.length+Q.length)(hn':n=P.length)(hr:n=R.length)(hN:N=(A++P++Q++R++Z).length)(hn:N<=1099511627776)(f:AV)(hf:f.clr=f):
 qai XV 175 [.tsl true 0 3 N,.d (.int .i64 a),.d (.int .i64 b),.d (.int .i64 n),f] [some (kc (A++P++Q++R++Z))]=some (.d (.tup []),[some (kc (A++R++Q++P++Z))]):=by
 subst ha;subst hb;subst hn';subst hN
 exact qlV A P Q R Z hr hn f hf
theorem qw4(G:List T)(m N:Nat)(hN:N<=1099511627776)(f:AV)(hf:f.clr=f)(hfs:f.safe 1=true):∀(k:Nat) (A X Y Z:List T),X.length+Y.length<=k->0<X.length->0<Y.length->A.length+X.length=m->(A++X++Y++Z).length=N->G=A++Y++X++Z->
 ∃(A2 X2 Y2 Z2:List T),X2.length=Y2.length/\A2.length+X2.length=m/\(A2++X2++Y2++Z2).length=N/\G=A2++Y2++X2++Z2/\
  qbp XV [] 1 [0,2,4,10,11] qnc ⟨[(0,.tsl true 0 3 N),(2,.d (.int .i64 m)),(4,f),(10,.d (.int .i64 X.length)),(11,.d (.int .i64 Y.length))],[some (kc (A++X++Y++Z))]⟩=some (.exit 0,⟨[(0,.tsl true 0 3 N),(2,.d (.int .i64 m)),(4,f),(10,.d (.int .i64 X2.length)),(11,.d (.int .i64 X2.length)),(20,.d (.bool false))],[some (kc (A2++X2++Y2++Z2))]⟩):=by
 intro k
 induction k with
 |zero=>intro A X Y Z h1 h2;omega
 |succ k ih=>
  intro A X Y Z hk hx hy hm hl hG;have hl2:A.length+X.length+Y.length+Z.length=N:=by rw[<-hl];simp;omega
  have head:∀(x y:Nat) (c:List AV),qal 1 [0,2,4,10,11] ⟨[(0,.tsl true 0 3 N),(2,.d (.int .i64 m)),(4,f),(10,.d (.int .i64 x)),(11,.d (.int .i64 y))],[some c]⟩=some ⟨[(0,.tsl true 0 3 N),(2,.d (.int .i64 m)),(4,f),(10,.d (.int .i64 x)),(11,.d (.int .i64 y))],[some c]⟩:=fun x y c=>by
   simp[qal,qaf,qaK,hfs]
  rcases Nat.lt_trichotomy X.length Y.length with hlt|heq|hgt
  ·
   have hq:(Y.take (Y.length-X.length)).length=Y.length-X.length:=by simp
   have hr:(Y.drop (Y.length-X.length)).length=X.length:=by simp;omega
   generalize hQ:Y.take (Y.length-X.length)=Q at hq;generalize hR:Y.drop (Y.length-X.length)=R at hr;have hY:Y=Q++R:=by rw[<-hQ,<-hR,List.take_append_drop]
   have hs:=qev A X Q R Z A.length (m+Y.length-X.length) X.length N rfl (by omega) rfl hr.symm (by simp;omega) hN f hf;obtain⟨A2,X2,Y2,Z2,r1,r2,r3,r4,r5⟩:=ih A R Q (X++Z) (by omega) (by omega) (by omega) (by omega) (by simp;omega) (by rw[hG,hY];simp);refine⟨A2,X2,Y2,Z2,r1,r2,r3,r4,?_⟩;rw[<-r5,hr,hq];have e1:A++X++Y++Z=A++X++Q++R++Z:=by rw[hY];simp
   have e2:A++R++Q++(X++Z)=A++R++Q++X++Z:=by simp
   rw[e1,e2];have w1:IntKind.i64.wrap ((m:Int)-X.length)=(A.length:Int):=by rw[wrap_i64 (by omega) (by omega)];omega
   have w2:IntKind.i64.wrap ((m:Int)+Y.length)=((m+Y.length:Nat):Int):=by rw[wrap_i64 (by omega) (by omega)];omega
   have w3:IntKind.i64.wrap (((m+Y.length:Nat):Int)-X.length)=((m+Y.length-X.length:Nat):Int):=by rw[wrap_i64 (by omega) (by omega)];omega
   have w4:IntKind.i64.wrap ((Y.length:Int)-X.length)=((Y.length-X.length:Nat):Int):=by rw[wrap_i64 (by omega) (by omega)];omega
   refine qbg (head _ _ _) ?_;have n1:((X.length:Int) !=(Y.length:Int))=true:=by simp;omega
   have n2:¬((Y.length:Int)<X.length):=by omega
   generalize kc (A++X++Q++R++Z)=c1 at hs⊢
   generalize kc (A++R++Q++X++Z)=c2 at hs⊢
   generalize ((m+Y.length-X.length:Nat):Int)=gv1 at*
   generalize ((m+Y.length:Nat):Int)=gv2 at*
   generalize ((Y.length-X.length:Nat):Int)=gv3 at*
   generalize (X.length:Int)=vx at*
   generalize (Y.length:Int)=vy at*
   simp[qnc,qo7,qo6,qo5,qtz,qty,qtx,qtw,qtv,qo4,n1,n2,w1,w2,w3,w4,hs,hf]
  ·
   refine⟨A,X,Y,Z,heq,hm,hl,hG,?_⟩;rw[<-heq];refine qaG (head _ _ _) ?_ (by simp);simp[qnc,qo5]
  ·have hp:(X.take Y.length).length=Y.length:=by simp;omega
   have hq:(X.drop Y.length).length=X.length-Y.length:=by simp
   generalize hP:X.take Y.length=P at hp;generalize hQ:X.drop Y.length=Q at hq;have hX:X=P++Q:=by rw[<-hP,<-hQ,List.take_append_drop]
   have hs:=qev A P Q Y Z A.length m Y.length N rfl (by omega) hp.symm rfl (by simp;omega) hN f hf;obtain⟨A2,X2,Y2,Z2,r1,r2,r3,r4,r5⟩:=ih (A++Y) Q P Z (by omega) (by omega) (by omega) (by simp;omega) (by simp;omega) (by rw[hG,hX];simp);refine⟨A2,X2,Y2,Z2,r1,r2,r3,r4,?_⟩;rw[<-r5,hp,hq];have e1:A++X++Y++Z=A++P++Q++Y++Z:=by rw[hX];simp
   rw[e1];have w1:IntKind.i64.wrap ((m:Int)-X.length)=(A.length:Int):=by rw[wrap_i64 (by omega) (by omega)];omega
   have w4:IntKind.i64.wrap ((X.length:Int)-Y.length)=((X.length-Y.length:Nat):Int):=by rw[wrap_i64 (by omega) (by omega)];omega
   refine qbg (head _ _ _) ?_;have n1:((X.length:Int) !=(Y.length:Int))=true:=by simp;omega
   have n2:((Y.length:Int)<X.length):=by omega
   generalize kc (A++P++Q++Y++Z)=c1 at hs⊢
   generalize kc (A++Y++Q++P++Z)=c2 at hs⊢
   generalize ((X.length-Y.length:Nat):Int)=gv3 at*
   generalize (X.length:Int)=vx at*
   generalize (Y.length:Int)=vy at*
   simp[qnc,qo7,qo6,qo5,qtz,qty,qtx,qtw,qtv,qo4,n1,n2,w1,w4,hs,hf]
theorem qsY(A X Y Z:List T)(a m b N:Nat)(ha:a=A.length)(hm:m=A.length+X.length)(hb:b=A.length+X.length+Y.length)(hN:N=(A++X++Y++Z).length)(hn:N<=1099511627776)(hx:0<X.length)(hy:0<Y.length)(f:AV)(hf:f.clr=f)(hfs:f.safe 1=true):
 qai XV 174 [.tsl true 0 3 N,.d (.int .i64 a),.d (.int .i64 m),.d (.int .i64 b),f] [some (kc (A++X++Y++Z))]=some (.d (.tup []),[some (kc (A++Y++X++Z))]):=by
 have hl:A.length+X.length+Y.length+Z.length=N:=by rw[hN];simp;omega
 obtain⟨A2,X2,Y2,Z2,r1,r2,r3,r4,r5⟩:=qw4 (A++Y++X++Z) m N hn f hf hfs (X.length+Y.length) A X Y Z (Nat.le_refl _) hx hy hm.symm hN.symm rfl;have hl2:A2.length+X2.length+Y2.length+Z2.length=N:=by rw[<-r3];simp;omega
 have hs:=qev A2 X2 [] Y2 Z2 A2.length m X2.length N rfl (by simp;omega) rfl r1 (by simp;omega) hn f hf;simp only[List.append_nil]at hs;rw[qaE XV _ _ _ qBE rfl qsg rfl,r4];have w1:IntKind.i64.wrap ((m:Int)-a)=(X.length:Int):=by rw[wrap_i64 (by omega) (by omega)];omega
 have w2:IntKind.i64.wrap ((b:Int)-m)=(Y.length:Int):=by rw[wrap_i64 (by omega) (by omega)];omega
 have w3:IntKind.i64.wrap ((m:Int)-X2.length)=(A2.length:Int):=by rw[wrap_i64 (by omega) (by omega)];omega
 generalize kc (A++X++Y++Z)=c1 at*
 generalize kc (A2++X2++Y2++Z2)=c2 at*
 generalize kc (A2++Y2++X2++Z2)=c3 at*
 simp[qBE,qo7,qo6,w1,w2,hf];rw[r5];simp[qo4,w3,hf,hs]
end Go.Proofs.Ytfiakfiocdfpbaa.VS
namespace Go.Proofs.Ytfiakfiocdfpbaa.VS
theorem qmQ(l:List T)(i:Nat)(hi:i<l.length):((kc l).drop (i*3)).take 3=e3 (tAt l i):=by
 unfold kc;rw[qf8 (qlz l) i (by simpa using hi)];simp[qaO hi]
theorem qgU(f v:Int)(ks:List T):DV.agg [.int .i64 f,.int .i64 v,.sl .sub (ks.map (T.enc .sub))]=(T.node f v ks).enc .sub:=(T.qbP .sub (.node f v ks)).symm
theorem qEb(l:List T)(a:Nat)(j:Nat)(hn:l.length<=1099511627776)(hl:j+1<l.length)(ha:a<j+1)(hb:∀t,t∈l->t.inner<=1099511627776)(x2 x8:AV):
 qax XV [46,50] (.region true 0 [0,1,2,3,8,9,34] qpb) ⟨[(0,.tsl true 0 3 l.length),(1,.d (.int .i64 a)),(2,x2),(3,.fn 6 []),(8,x8),(9,.d (.int .i64 ((j+1:Nat):Int)))],[some (kc l)]⟩=some (.normal,⟨[(0,.tsl true 0 3 l.length),(1,.d (.int .i64 a)),(2,x2),(3,.fn 6 []),(8,x8),(9,.d (.int .i64 ((j+1:Nat):Int))),(34,.d (.bool (decide (T.cmp (tAt l (j+1)) (tAt l j)<0))))],[some (kc l)]⟩):=by
 have hw:IntKind.i64.wrap (((j+1:Nat):Int)-1)=(j:Int):=by rw[show((j+1:Nat):Int)-1=(j:Int)by omega];exact wrap_i64 (by omega) (by omega)
 have hc:=qej (some (kc l)) (tAt l (j+1)) (tAt l j) (hb _ (qaJ hl)) (hb _ (qaJ (by omega)));have f1:=qmQ l j (by omega);have f2:=qmQ l (j+1) hl;have l0:=qf0 l;generalize T.cmp (tAt l (j+1)) (tAt l j)=r at hc⊢
 generalize kc l=c0 at f1 f2 l0 hc⊢
 generalize hn':l.length=n at*
 have hj0:(0:Int)<=((j+1:Nat):Int)/\((j+1:Nat):Int)<n:=⟨by omega,by omega⟩;have hjn:((j+1:Nat):Int).toNat=j+1:=rfl;have hi0:(j:Int)<n:=by omega
 have le0:j*3+3<=n*3:=by omega
 have le1:(j+1)*3+3<=n*3:=by omega
 have hja:((a:Int)<((j+1:Nat):Int)):=by omega
 generalize ((j+1:Nat):Int)=J at hw hj0 hjn hja⊢
 obtain⟨fa,va,ka⟩:=tAt l (j+1);obtain⟨fb,vb,kb⟩:=tAt l j;simp only[qhs,qau,T.qdW,T.qer,T.qa0]at f1 f2;simp[qy9,hw,hj0,hjn,hi0,hja,l0,f1,f2,le0,le1,hc,qac,qaa,qae,qan,qgU]
theorem qpC(A Z:List T)(x:T)(i:Nat)(h:i=A.length):tAt (A++x::Z) i=x:=by subst h;exact qnH A Z x
theorem qof(N a:Nat)(hn:N<=1099511627776)(x2 x8:Int)(x:T):∀(k:Nat) (A S T1:List T),S.length=k->A.length=a->(A++S++x::T1).length=N->(∀t,t∈A++S++x::T1->t.inner<=1099511627776)->
 ∃S1 S2:List T,S=S1++S2/\(∀s,s∈S2->T.cmp x s<0)/\(∀s,S1.getLast?=some s->¬T.cmp x s<0)/\
  ∀(s0:XS),s0.r=[(0,.tsl true 0 3 N),(1,.d (.int .i64 a)),(2,.d (.int .i64 x2)),(3,.fn 6 []),(8,.d (.int .i64 x8)),(9,.d (.int .i64 (a+S.length:Nat)))]->s0.B=[some (kc (A++S++x::T1))]->
  ∃w,qbp XV [46,50] 1 [0,1,2,3,8,9] qnf s0=some (.exit 2,⟨[(0,.tsl true 0 3 N),(1,.d (.int .i64 a)),(2,.d (.int .i64 x2)),(3,.fn 6 []),(8,.d (.int .i64 x8)),(9,.d (.int .i64 (a+S1.length:Nat))),(34,w)],[some (kc (A++S1++x::(S2++T1)))]⟩):=by
 have head:∀(y:Int) (c:List AV) (s0:XS),s0.r=[(0,.tsl true 0 3 N),(1,.d (.int .i64 a)),(2,.d (.int .i64 x2)),(3,.fn 6 []),(8,.d (.int .i64 x8)),(9,.d (.int .i64 y))]->s0.B=[some c]->qal 1 [0,1,2,3,8,9] s0=some ⟨[(0,.tsl true 0 3 N),(1,.d (.int .i64 a)),(2,.d (.int .i64 x2)),(3,.fn 6 []),(8,.d (.int .i64 x8)),(9,.d (.int .i64 y))],[some c]⟩:=fun y c s0 h1 h2=>by
  obtain⟨r,B⟩:=s0;simp only at h1 h2;subst h1;subst h2
  simp[qal,qaf,qaK,qcC,qbd]
 intro k
 induction k with
 |zero=>
  intro A S T1 hS hA hN hb;have:S=[]:=List.length_eq_zero_iff.1 hS;subst this;refine⟨[],[],rfl,by simp,by simp,fun s0 h1 h2=>⟨.d (.bool false),?_⟩⟩;refine qaG (head _ _ s0 h1 h2) ?_ (by simp);simp[qnf,qme,qj5,qtO,qy9,qy8,qtN,qtP]
 |succ k ih=>
  intro A S T1 hS hA hN hb;have hne:S≠[]:=by intro h;simp[h]at hS
  obtain⟨S',s,rfl⟩:∃S' s,S=S'++[s]:=⟨S.dropLast,S.getLast hne,(List.dropLast_concat_getLast hne).symm⟩;have hS':S'.length=k:=by simpa using hS
  have hl0:A++(S'++[s])++x::T1=(A++S')++s::([]++x::T1):=by simp
  have hl1:A++S'++x::(s::T1)=(A++S')++x::([]++s::T1):=by simp
  have hNl:A.length+S'.length+T1.length+2=N:=by rw[<-hN];simp;omega
  have hja:a+(S'++[s]).length=(a+S'.length)+1:=by simp;omega
  have t0:tAt (A++(S'++[s])++x::T1) (a+S'.length)=s:=by rw[hl0];exact qpC _ _ _ _ (by simp[hA])
  have t1:tAt (A++(S'++[s])++x::T1) (a+S'.length+1)=x:=qpC _ _ _ _ (by simp;omega);have hc:=qEb (A++(S'++[s])++x::T1) a (a+S'.length) (by rw[hN];exact hn) (by rw[hN];omega) (by omega) hb (.d (.int .i64 x2)) (.d (.int .i64 x8));rw[t0,t1,hN]at hc
  by_cases hq:T.cmp x s<0
  ·have hsw:=qzZ (A++(S'++[s])++x::T1) (a+S'.length) (by rw[hN];exact hn) (by rw[hN];omega) (.d (.int .i64 a)) (.d (.int .i64 x2)) (.fn 6 []) (.d (.int .i64 x8)) (by simp) (by simp)
   have hsp:swp (A++(S'++[s])++x::T1) (a+S'.length) (a+S'.length+1)=A++S'++x::(s::T1):=by
    rw[hl0,hl1,show a+S'.length=(A++S').length by simp[hA]];exact qkE _ [] _ _ _ _ (by simp)
   rw[hsp,hN]at hsw;obtain⟨S1,S2,e1,e2,e3,e4⟩:=ih A S' (s::T1) hS' hA (by simp;omega) (fun t ht=>hb t (by
    simp only[List.mem_append,List.mem_cons]at ht;rcases ht with(h|h)|h|h|h<;>simp[h]))
   refine⟨S1,S2++[s],by rw[e1];simp,fun y hy=> ?_,e3,fun s0 h1 h2=> ?_⟩
   ·rcases List.mem_append.1 hy with h|h
    ·exact e2 y h
    ·simp at h;subst h;exact hq
   ·rw[hja]at h1
    have hw:=wrap_i64 (n:=((a+S'.length:Nat):Int)) (by omega) (by omega);obtain⟨w,hlo⟩:=e4 ⟨[(0,.tsl true 0 3 N),(1,.d (.int .i64 a)),(2,.d (.int .i64 x2)),(3,.fn 6 []),(8,.d (.int .i64 x8)),(9,.d (.int .i64 (a+S'.length:Nat)))],[some (kc (A++S'++x::(s::T1)))]⟩ rfl rfl;refine⟨w,?_⟩;have hap:S2++[s]++T1=S2++(s::T1):=by simp
    rw[hap,<-hlo];refine qbg (head _ _ s0 h1 h2) ?_;have hw1:IntKind.i64.wrap (((a+S'.length+1:Nat):Int)-1)=((a+S'.length:Nat):Int):=by rw[show((a+S'.length+1:Nat):Int)-1=((a+S'.length:Nat):Int)by omega];exact hw
    simp only[hq,decide_true]at hc;generalize kc (A++S'++x::(s::T1))=c2 at hsw⊢
    generalize kc (A++(S'++[s])++x::T1)=c1 at hc hsw⊢
    generalize ((a+S'.length+1:Nat):Int)=J at*
    generalize ((a+S'.length:Nat):Int)=I at*
    simp only[qnf,qdu,hc];simp;rw[hsw];simp[qtN,hw1]
  ·refine⟨S'++[s],[],by simp,by simp,fun y hy=> ?_,fun s0 h1 h2=>⟨.d (.bool false),?_⟩⟩
   ·simp at hy;subst hy;exact hq
   ·rw[hja]at h1⊢
    refine qaG (head _ _ s0 h1 h2) ?_ (by simp);simp only[hq,decide_false]at hc;simp only[List.nil_append];generalize kc (A++(S'++[s])++x::T1)=c1 at hc⊢
    generalize ((a+S'.length+1:Nat):Int)=J at*
    simp only[qnf,qdu,hc];simp
end Go.Proofs.Ytfiakfiocdfpbaa.VS
namespace Go.Proofs.Ytfiakfiocdfpbaa.VS
theorem qqx{S1 S2:List T}{x:T}(h:Srt (S1++S2))(h2:∀s,s∈S2->T.cmp x s<0)(h1:∀s,S1.getLast?=some s->¬T.cmp x s<0):Srt (S1++x::S2):=by
 unfold Srt at*
 rw[List.pairwise_append]at h⊢
 obtain⟨p1,p2,p3⟩:=h;have hx:∀s,s∈S1->tle s x:=by
  intro s hs;have hne:S1≠[]:=fun he=>by rw[he]at hs;simp at hs
  have hl:=qcz (h1 (S1.getLast hne) (List.getLast?_eq_some_getLast hne))
  by_cases he:s=S1.getLast hne
  ·rw[he];exact hl
  ·have hd:s∈S1.dropLast:=by
    have:=List.dropLast_concat_getLast hne;rw[<-this]at hs;rcases List.mem_append.1 hs with h|h
    ·exact h
    ·simp at h;exact absurd h he
   have hp:(S1.dropLast++[S1.getLast hne]).Pairwise tle:=by rw[List.dropLast_concat_getLast];exact p1
   exact qfE ((List.pairwise_append.1 hp).2.2 s hd _ (by simp)) hl
 refine⟨p1,List.pairwise_cons.2 ⟨fun s hs=>qdK (h2 s hs),p2⟩,fun s hs t ht=> ?_⟩;rcases List.mem_cons.1 ht with rfl|ht
 ·exact hx s hs
 ·exact p3 s hs t ht
theorem qmS(N a b:Nat)(hn:N<=1099511627776)(A Z:List T)(hA:A.length=a):∀(R S:List T),0<S.length->b=a+S.length+R.length->(A++S++R++Z).length=N->(∀t,t∈A++S++R++Z->t.inner<=1099511627776)->Srt S->
 ∃W:List T,W.Perm (S++R)/\Srt W/\
  ∀(s0:XS),s0.r=[(0,.tsl true 0 3 N),(1,.d (.int .i64 a)),(2,.d (.int .i64 b)),(3,.fn 6 []),(8,.d (.int .i64 (a+S.length:Nat)))]->s0.B=[some (kc (A++S++R++Z))]->
  qbp XV [46,50] 1 [0,1,2,3,8] qhA s0=some (.exit 0,⟨[(0,.tsl true 0 3 N),(1,.d (.int .i64 a)),(2,.d (.int .i64 b)),(3,.fn 6 []),(8,.d (.int .i64 b)),(14,.d (.bool false))],[some (kc (A++W++Z))]⟩):=by
 have head:∀(y:Int) (c:List AV) (s0:XS),s0.r=[(0,.tsl true 0 3 N),(1,.d (.int .i64 a)),(2,.d (.int .i64 b)),(3,.fn 6 []),(8,.d (.int .i64 y))]->s0.B=[some c]->qal 1 [0,1,2,3,8] s0=some ⟨[(0,.tsl true 0 3 N),(1,.d (.int .i64 a)),(2,.d (.int .i64 b)),(3,.fn 6 []),(8,.d (.int .i64 y))],[some c]⟩:=fun y c s0 h1 h2=>by
  obtain⟨r,B⟩:=s0;simp only at h1 h2;subst h1;subst h2
  simp[qal,qaf,qaK,qcC,qbd]
 intro R
 induction R with
 |nil=>
  intro S hS hb hN hin hs;refine⟨S,by simp,hs,fun s0 h1 h2=> ?_⟩;have hb':b=a+S.length:=by simpa using hb
  rw[<-hb']at h1;rw[List.append_nil]at h2;refine qaG (head _ _ s0 h1 h2) ?_ (by simp);simp[qhA,qj5]
 |cons x R ih=>
  intro S hS hb hN hin hs;obtain⟨S1,S2,e1,e2,e3,e4⟩:=qof N a hn b (a+S.length:Nat) x S.length A S (R++Z) rfl hA (by rw[<-hN];simp) (fun t ht=>hin t (by
   simp only[List.mem_append,List.mem_cons]at ht⊢
   rcases ht with(h|h)|h|h|h<;>simp[h]))
  have hW:Srt (S1++x::S2):=qqx (by rw[<-e1];exact hs) e2 e3;have hlen:(S1++x::S2).length=S.length+1:=by rw[e1];simp;omega
  have hperm:(S1++x::S2).Perm (S++[x]):=by
   rw[e1];exact(List.perm_middle).trans (by
    have:=List.perm_append_comm (l₁:=[x]) (l₂:=S1++S2);simpa using this)
  have hl0:(A++(S1++x::S2)++R++Z).length=N:=by rw[<-hN,e1];simp;omega
  obtain⟨W,w1,w2,w3⟩:=ih (S1++x::S2) (by rw[hlen];omega) (by rw[hlen,hb];simp;omega) hl0 (fun t ht=>hin t (by
   rw[e1];simp only[List.mem_append,List.mem_cons]at ht⊢
   rcases ht with((h|h|h|h)|h)|h<;>simp[h])) hW
  refine⟨W,w1.trans ((hperm.append_right R).trans (by simp)),w2,fun s0 h1 h2=> ?_⟩;have hNl:A.length+S.length+(R.length+1)+Z.length=N:=by rw[<-hN];simp;omega
  have hbl:((a+S.length:Nat):Int)<(b:Int):=by
   simp only[List.length_cons]at hb;omega
  obtain⟨w,hlo⟩:=e4 ⟨[(0,.tsl true 0 3 N),(1,.d (.int .i64 a)),(2,.d (.int .i64 b)),(3,.fn 6 []),(8,.d (.int .i64 (a+S.length:Nat))),(9,.d (.int .i64 (a+S.length:Nat)))],[some (kc (A++S++x::(R++Z)))]⟩ rfl rfl;have hc0:A++S++x::R++Z=A++S++x::(R++Z):=by simp
  rw[hc0]at h2;have hw:=qaF (n:=a+S.length) (by omega);have hnext:=w3 ⟨[(0,.tsl true 0 3 N),(1,.d (.int .i64 a)),(2,.d (.int .i64 b)),(3,.fn 6 []),(8,.d (.int .i64 (a+(S1++x::S2).length:Nat)))],[some (kc (A++(S1++x::S2)++R++Z))]⟩ rfl rfl;rw[<-hnext];refine qbg (head _ _ s0 h1 h2) ?_;have hc1:A++(S1++x::S2)++R++Z=A++S1++x::(S2++(R++Z)):=by simp
  rw[hc1,hlen,show a+(S.length+1)=a+S.length+1 by omega];generalize kc (A++S1++x::(S2++(R++Z)))=c2 at hlo⊢
  generalize kc (A++S++x::(R++Z))=c1 at hlo⊢
  generalize ((a+S.length+1:Nat):Int)=J at*
  generalize ((a+S.length:Nat):Int)=I at*
  simp[qhA,qj5,qtP,qtO,hbl];rw[hlo];simp[hw]
theorem qf2(A X Z:List T)(a b N:Nat)(ha:a=A.length)(hb:b=A.length+X.length)(hN:N=(A++X++Z).length)(hn:N<=1099511627776)(hin:∀t,t∈A++X++Z->t.inner<=1099511627776):
 ∃W:List T,W.Perm X/\Srt W/\qai XV 172 [.tsl true 0 3 N,.d (.int .i64 a),.d (.int .i64 b),.fn 6 []] [some (kc (A++X++Z))]=some (.d (.tup []),[some (kc (A++W++Z))]):=by
 have hNl:A.length+X.length+Z.length=N:=by rw[hN];simp;omega
 have hw:=qaF (n:=a) (by omega);cases X with
 |nil=>
  refine⟨[],List.Perm.refl _,List.Pairwise.nil,?_⟩;rw[qaE XV _ _ _ qwf rfl qh3 rfl];have hb':b=a:=by simp at hb;omega
  subst hb';have hlo:qbp XV [46,50] 1 [0,1,2,3,8] qhA ⟨[(0,.tsl true 0 3 N),(1,.d (.int .i64 b)),(2,.d (.int .i64 b)),(3,.fn 6 []),(8,.d (.int .i64 (b+1:Nat)))],[some (kc (A++[]++Z))]⟩=some (.exit 0,⟨[(0,.tsl true 0 3 N),(1,.d (.int .i64 b)),(2,.d (.int .i64 b)),(3,.fn 6 []),(8,.d (.int .i64 (b+1:Nat))),(14,.d (.bool false))],[some (kc (A++[]++Z))]⟩):=by
   refine qaG (s0:=⟨[(0,.tsl true 0 3 N),(1,.d (.int .i64 b)),(2,.d (.int .i64 b)),(3,.fn 6 []),(8,.d (.int .i64 (b+1:Nat)))],[some (kc (A++[]++Z))]⟩) (by simp[qal,qaf,qaK,qcC,qbd]) ?_ (by simp);have hnl:¬(((b+1:Nat):Int)<(b:Int)):=by omega
   generalize ((b+1:Nat):Int)=J at*
   simp[qhA,qj5,hnl]
  generalize kc (A++[]++Z)=c1 at hlo⊢
  generalize ((b+1:Nat):Int)=J at*
  simp[qwf,qme,hw];rw[hlo];simp
 |cons x R=>
  obtain⟨W,w1,w2,w3⟩:=qmS N a b hn A Z ha.symm R [x] (by simp) (by rw[hb,ha];simp;omega) (by rw[hN];simp) (fun t ht=>hin t (by
   simp only[List.mem_append,List.mem_cons,List.not_mem_nil,or_false]at ht⊢
   rcases ht with((h|h)|h)|h<;>simp[h])) (List.pairwise_singleton _ _)
  refine⟨W,by simpa using w1,w2,?_⟩;rw[qaE XV _ _ _ qwf rfl qh3 rfl];have hlo:=w3 ⟨[(0,.tsl true 0 3 N),(1,.d (.int .i64 a)),(2,.d (.int .i64 b)),(3,.fn 6 []),(8,.d (.int .i64 (a+1:Nat)))],[some (kc (A++[x]++R++Z))]⟩ rfl rfl;have hc:A++x::R++Z=A++[x]++R++Z:=by simp
  rw[hc];generalize kc (A++[x]++R++Z)=c1 at hlo⊢
  generalize kc (A++W++Z)=c2 at hlo⊢
  generalize ((a+1:Nat):Int)=J at*
  simp[qwf,qme,hw];rw[hlo];simp
end Go.Proofs.Ytfiakfiocdfpbaa.VS
namespace Go.Proofs.Ytfiakfiocdfpbaa.VS
theorem qDA(x y z:AV):AV.clrs [x,y,z]=[x.clr,y.clr,z.clr]:=by simp only[AV.clrs]
theorem qwN(l:List T)(k:Nat)(hn:l.length<=1099511627776)(hl:k+1<l.length)(x10:Int):
 qax XV [70,74,122,126] (.region true 0 [0,10,13] qk3) ⟨[(0,.tsl true 0 3 l.length),(10,.d (.int .i64 x10)),(13,.d (.int .i64 k)),(58,.d (.bool true))],[some (kc l)]⟩=some (.normal,⟨[(0,.tsl true 0 3 l.length),(10,.d (.int .i64 x10)),(13,.d (.int .i64 k))],[some (kc (swp l (k+1) k))]⟩):=by
 have hw:=qaF (n:=k) (by omega);obtain⟨c1,c2,c3,l1,l2,l3,f1,f2,f3,f4,f5,f6⟩:=qe7 l (k+1) k hl (by omega) (by omega);have l0:=qf0 l;generalize kc (swp l (k+1) k)=c4 at f6⊢
 generalize kc l=c0 at f1 f2 l0⊢
 generalize hn':l.length=n at*
 have hj0:(0:Int)<=((k+1:Nat):Int)/\((k+1:Nat):Int)<n:=⟨by omega,by omega⟩;have hjn:((k+1:Nat):Int).toNat=k+1:=rfl;have hi0:(k:Int)<n:=by omega
 have le0:k*3+3<=n*3:=by omega
 have le1:(k+1)*3+3<=n*3:=by omega
 generalize ((k+1:Nat):Int)=J at hw hj0 hjn⊢
 simp only[qhs,qlm,qau]at f1 f2 f3 f4 f5 f6;simp[qBc,hw,hj0,hjn,hi0,l0,l1,l2,l3,f1,f2,f3,f4,f5,f6,le0,le1,qDA,qac,qaa,qae,qan]
theorem qwM(l:List T)(k:Nat)(hn:l.length<=1099511627776)(hl:k+1<l.length)(x14:Int):
 qax XV [70,74,122,126] (.region true 0 [0,14,17] qkZ) ⟨[(0,.tsl true 0 3 l.length),(14,.d (.int .i64 x14)),(17,.d (.int .i64 ((k+1:Nat):Int))),(110,.d (.bool true))],[some (kc l)]⟩=some (.normal,⟨[(0,.tsl true 0 3 l.length),(14,.d (.int .i64 x14)),(17,.d (.int .i64 ((k+1:Nat):Int)))],[some (kc (swp l k (k+1)))]⟩):=by
 have hw:IntKind.i64.wrap (((k+1:Nat):Int)-1)=(k:Int):=by rw[show((k+1:Nat):Int)-1=(k:Int)by omega];exact wrap_i64 (by omega) (by omega)
 obtain⟨c1,c2,c3,l1,l2,l3,f1,f2,f3,f4,f5,f6⟩:=qe7 l k (k+1) (by omega) hl (by omega);have l0:=qf0 l;generalize kc (swp l k (k+1))=c4 at f6⊢
 generalize kc l=c0 at f1 f2 l0⊢
 generalize hn':l.length=n at*
 have hj0:(0:Int)<=((k+1:Nat):Int)/\((k+1:Nat):Int)<n:=⟨by omega,by omega⟩;have hjn:((k+1:Nat):Int).toNat=k+1:=rfl;have hi0:(k:Int)<n:=by omega
 have le0:k*3+3<=n*3:=by omega
 have le1:(k+1)*3+3<=n*3:=by omega
 generalize ((k+1:Nat):Int)=J at hw hj0 hjn⊢
 simp only[qhs,qlm,qau]at f1 f2 f3 f4 f5 f6;simp[qBb,hw,hj0,hjn,hi0,l0,l1,l2,l3,f1,f2,f3,f4,f5,f6,le0,le1,qDA,qac,qaa,qae,qan]
theorem qxH(l:List T)(a h:Nat)(hn:l.length<=1099511627776)(ha:a<l.length)(hh:h<l.length)(hb:∀t,t∈l->t.inner<=1099511627776)(x10 x11:Int):
 qax XV [70,74,122,126] (.region true 0 [0,1,4,10,11,12,50] qo8) ⟨[(0,.tsl true 0 3 l.length),(1,.d (.int .i64 a)),(4,.fn 6 []),(10,.d (.int .i64 x10)),(11,.d (.int .i64 x11)),(12,.d (.int .i64 h))],[some (kc l)]⟩=some (.normal,⟨[(0,.tsl true 0 3 l.length),(1,.d (.int .i64 a)),(4,.fn 6 []),(10,.d (.int .i64 x10)),(11,.d (.int .i64 x11)),(12,.d (.int .i64 h)),(50,.d (.bool (decide (T.cmp (tAt l h) (tAt l a)<0))))],[some (kc l)]⟩):=by
 have hc:=qej (some (kc l)) (tAt l h) (tAt l a) (hb _ (qaJ hh)) (hb _ (qaJ ha));have f1:=qmQ l h hh;have f2:=qmQ l a ha;have l0:=qf0 l;generalize T.cmp (tAt l h) (tAt l a)=r at hc⊢
 generalize kc l=c0 at f1 f2 l0 hc⊢
 generalize hn':l.length=n at*
 have hi0:(h:Int)<n:=by omega
 have hj0:(a:Int)<n:=by omega
 have le0:h*3+3<=n*3:=by omega
 have le1:a*3+3<=n*3:=by omega
 obtain⟨fa,va,ka⟩:=tAt l h;obtain⟨fb,vb,kb⟩:=tAt l a;simp only[qhs,qau,T.qdW,T.qer,T.qa0]at f1 f2;simp[qD4,hi0,hj0,ha,hh,l0,f1,f2,le0,le1,hc,qac,qaa,qae,qan,qgU]
theorem qvN(l:List T)(m h:Nat)(hn:l.length<=1099511627776)(hm:m<l.length)(hh:h<l.length)(hb:∀t,t∈l->t.inner<=1099511627776)(x14 x15:Int):
 qax XV [70,74,122,126] (.region true 0 [0,2,4,14,15,16,103] qk0) ⟨[(0,.tsl true 0 3 l.length),(2,.d (.int .i64 m)),(4,.fn 6 []),(14,.d (.int .i64 x14)),(15,.d (.int .i64 x15)),(16,.d (.int .i64 h))],[some (kc l)]⟩=some (.normal,⟨[(0,.tsl true 0 3 l.length),(2,.d (.int .i64 m)),(4,.fn 6 []),(14,.d (.int .i64 x14)),(15,.d (.int .i64 x15)),(16,.d (.int .i64 h)),(103,.d (.bool (!decide (T.cmp (tAt l m) (tAt l h)<0))))],[some (kc l)]⟩):=by
 have hc:=qej (some (kc l)) (tAt l m) (tAt l h) (hb _ (qaJ hm)) (hb _ (qaJ hh));have f1:=qmQ l h hh;have f2:=qmQ l m hm;have l0:=qf0 l;generalize T.cmp (tAt l m) (tAt l h)=r at hc⊢
 generalize kc l=c0 at f1 f2 l0 hc⊢
 generalize hn':l.length=n at*
 have hi0:(h:Int)<n:=by omega
 have hj0:(m:Int)<n:=by omega
 have le0:h*3+3<=n*3:=by omega
 have le1:m*3+3<=n*3:=by omega
 obtain⟨fa,va,ka⟩:=tAt l h;obtain⟨fb,vb,kb⟩:=tAt l m;simp only[qhs,qau,T.qdW,T.qer,T.qa0]at f1 f2
 by_cases hr:r<0
 ·simp[qvE,hi0,hj0,hm,hh,l0,f1,f2,le0,le1,hc,hr,qac,qaa,qae,qan,qgU]
 ·simp[qvE,hi0,hj0,hm,hh,l0,f1,f2,le0,le1,hc,hr,qac,qaa,qae,qan,qgU]
theorem qvM(l:List T)(p c:Nat)(hn:l.length<=1099511627776)(hcp:c<=p)(hp:p-c<l.length)(hh:c<l.length)(hpp:p<=4398046511104)(hb:∀t,t∈l->t.inner<=1099511627776)(x1 x2 x3 x18 x19 x20 x21:Int):
 qax XV [70,74,122,126] (.region true 0 [0,1,2,3,4,18,19,20,21,22,23,171] qkX) ⟨[(0,.tsl true 0 3 l.length),(1,.d (.int .i64 x1)),(2,.d (.int .i64 x2)),(3,.d (.int .i64 x3)),(4,.fn 6 []),(18,.d (.int .i64 x18)),(19,.d (.int .i64 x19)),(20,.d (.int .i64 x20)),(21,.d (.int .i64 x21)),(22,.d (.int .i64 p)),(23,.d (.int .i64 c))],[some (kc l)]⟩=some (.normal,⟨[(0,.tsl true 0 3 l.length),(1,.d (.int .i64 x1)),(2,.d (.int .i64 x2)),(3,.d (.int .i64 x3)),(4,.fn 6 []),(18,.d (.int .i64 x18)),(19,.d (.int .i64 x19)),(20,.d (.int .i64 x20)),(21,.d (.int .i64 x21)),(22,.d (.int .i64 p)),(23,.d (.int .i64 c)),(171,.d (.bool (!decide (T.cmp (tAt l (p-c)) (tAt l c)<0))))],[some (kc l)]⟩):=by
 have hw:IntKind.i64.wrap ((p:Int)-c)=((p-c:Nat):Int):=by rw[wrap_i64 (by omega) (by omega)];omega
 have hc:=qej (some (kc l)) (tAt l (p-c)) (tAt l c) (hb _ (qaJ hp)) (hb _ (qaJ hh));have f1:=qmQ l c hh;have f2:=qmQ l (p-c) hp;have l0:=qf0 l;generalize T.cmp (tAt l (p-c)) (tAt l c)=r at hc⊢
 generalize kc l=c0 at f1 f2 l0 hc⊢
 generalize hn':l.length=n at*
 generalize hq:p-c=q at*
 have hi0:(c:Int)<n:=by omega
 have hj0:(q:Int)<n:=by omega
 have le0:c*3+3<=n*3:=by omega
 have le1:q*3+3<=n*3:=by omega
 obtain⟨fa,va,ka⟩:=tAt l c;obtain⟨fb,vb,kb⟩:=tAt l q;simp only[qhs,qau,T.qdW,T.qer,T.qa0]at f1 f2
 by_cases hr:r<0
 ·simp[qvD,hw,hi0,hj0,hp,hh,l0,f1,f2,le0,le1,hc,hr,qac,qaa,qae,qan,qgU]
 ·simp[qvD,hw,hi0,hj0,hp,hh,l0,f1,f2,le0,le1,hc,hr,qac,qaa,qae,qan,qgU]
end Go.Proofs.Ytfiakfiocdfpbaa.VS

/- Functions that make a new row out of cells that others hold, each walked once. -/
import Derived.Test.YtpcoohnjllclnaaGreatOk
import Derived.Below
import Derived.WalkKit
import Derived.OwnWalk
import Derived.Lib.Walk
import Derived.Lib.SliceRun
import Derived.Lib.AppendZeros
import Derived.Lib.AppendZerosOnto
import Derived.Lib.Overlaps
import Derived.Deep.LoopGhost
import Derived.Deep.RegionLaw
import Derived.Laws.AppendOwn
import Derived.Laws.AppendOwnNone
import Derived.Laws.NewBlocks
import Derived.Laws.MakeOwn
import Derived.Deep.WholeRow
import Derived.Shelf.RegionOpenPlain
import Derived.Shelf.Spec.SlicesInsertGrow
import Derived.Shelf.Spec.SlicesInsert
import Derived.KernelRfl
set_option linter.unusedSimpArgs false
set_option linter.unusedVariables false
namespace Go.Proofs.YtpcoohnjllclnaaGreat.VS
open Go.RowKit Go.Lib Go.Proofs
theorem O2(rows:List (Nat×List Value))(k:Nat)(r:Nat×List Value)(h:rows[k]?=some r):gB (rows.take (k+1))=gB (rows.take k)+r.1:=by
 unfold gB;rw[List.take_add_one,h];simp
theorem qzl(rows:List (Nat×List Value))(k:Nat)(r:Nat×List Value)(h:rows[k]?=some r):mJ (rows.take (k+1))=mJ (rows.take k)++r.2:=by
 unfold mJ;rw[List.take_add_one,h];simp
theorem Qg(rows:List (Nat×List Value))(k:Nat):gB (rows.take k)<=gB rows:=by
 have:=congrArg (fun l=>gB l) (List.take_append_drop k rows);unfold gB at*
 simp only[List.map_append,List.sum_append]at this;omega
theorem nU{w:World}{p:Addr}{v:Value}(h:w.cell? p=some v):p.block<w.heap.size:=by
 unfold World.cell? at h;split at h
 ·rename_i hb;exact(Array.getElem?_eq_some_iff.1 hb).1
 ·simp at h
theorem lG(b o j:Nat):(⟨b,o,none⟩:Addr).add j=⟨b,o+j,none⟩:=by unfold Addr.add;split<;>simp_all
theorem Mj:(Tryz.prog.info? 104).map (fun i=>(i.zero,i.size,i.bytes))=some (some (Value.agg #[.bool false,.int .i64 0,.slice none 0 0,.slice none 0 0]),4,64):=by kernel_rfl
set_option maxRecDepth 100000 in
set_option maxHeartbeats 2000000 in
theorem QI(n:Nat)(w:World)(hn:0<n)(hb:n*64<=140737488355328):
 Calls Tryz.prog 205 #[.slice none 0 0,.int .i64 n] w fun e w'=>∃v,e= .returned v/\w'.ownsRow w.heap.size 104 4 v 0 []/\v.ownBlock=some w.heap.size/\Below w.heap.size w w':=by
 obtain⟨i,hi,hzz⟩:=ay.1 Mj;simp only[Prod.mk.injEq]at hzz;obtain⟨hz,hs,hby⟩:=hzz;have h1:¬((n:Int)<0):=by omega
 have h3:wrap64 ((n:Int)-0)=(n:Int):=by unfold wrap64;omega
 have h4:(n:Int)>0:=by omega
 have hrz:∀ty,(Builtin.append_ #[105,3] ty #[.slice none 0 0,.int .i64 (n:Int)]).run Tryz.prog w=
  .ok (.slice (some ⟨w.heap.size,0,none⟩) n (grownCap w n 0 104)) (w.drew.alloc (.cells (Builtin.zeroCells (Value.agg #[.bool false,.int .i64 0,.slice none 0 0,.slice none 0 0]).cells n++Builtin.zeroCells (Value.agg #[.bool false,.int .i64 0,.slice none 0 0,.slice none 0 0]).cells (grownCap w n 0 104-n)) 104)):=fun ty=>
  run_append_nil_zeros w 105 3 ty 104 i _ .i64 .i64 Tryz.underlying105 Tryz.underlying3 hi hz n hn (by omega) (by omega) (by rw[hby];omega)
 have hG:n<=grownCap w n 0 104:=grownCap_ge w _ _ _;have hGm:grownCap w n 0 104<=maxLen:=grownCap_le_maxLen w n 0 104 (by unfold maxLen;omega);generalize grownCap w n 0 104=G at hrz hG hGm;have hG63:G<=9223372036854775807:=by unfold maxLen at hGm;omega
 go_enter Tryz.func205,Tryz.ntmps205
 go_wp2_with (at_builtin;refine Lib.wpList_append_run _ rfl _ _ _ _ rfl _ _ rfl rfl _ _ (hrz _) ?_)
 all_goals (go_ret;exact⟨_,rfl,World.ownsRow_made _ _ _ (Nat.le_refl _) hGm (by simp[size_zeroCells,Value.cells];omega),rfl,(Below.refl _ w).drew.alloc (Nat.le_refl _) _⟩)
set_option maxRecDepth 100000 in
set_option maxHeartbeats 4000000 in
theorem Vb:Km Tryz.prog 177 4 64:=by
 intro ad c rows w hrows hc hcm hpos hbig;obtain⟨i,hi,hzz⟩:=ay.1 Mj;simp only[Prod.mk.injEq]at hzz;obtain⟨hz,hs,hby⟩:=hzz;obtain⟨blk,off,spot⟩:=ad;obtain⟨hspot,hrow⟩:=hrows;simp only at hspot hrow;subst hspot;have hc63:rows.length<=9223372036854775807:=by unfold maxLen at hcm;omega
 obtain⟨T,hT⟩:∃T:Nat->Nat,∀k,T k=gB (rows.take k):=⟨_,fun _=>rfl⟩;have HT:Aside (∀k,T k=gB (rows.take k)):=hT;have hT0:T 0=0:=by rw[hT];rfl
 have HS:Aside (∀k (h:k<rows.length),T (k+1)=T k+rows[k].1):=fun k h=>by rw[hT,hT,O2 rows k rows[k] (by simp[h])]
 have HB:Aside (∀k,T k*64<=140737488355328):=fun k=>by have:=Qg rows k;rw[hT];omega
 have HL:Aside (T rows.length=gB rows):=by show _=_;rw[hT,List.take_length]
 have A:Aside (RowsG w 4 ⟨blk,off,none⟩ rows):=⟨rfl,hrow⟩;have HP:Aside (0<T rows.length):=by show 0<_;rw[HL.out];exact hpos
 have AI:Aside (Tryz.prog.info? 104=some i/\i.zero=some (Value.agg #[.bool false,.int .i64 0,.slice none 0 0,.slice none 0 0])/\i.size=4/\i.bytes=64):=⟨hi,hz,hs,hby⟩;clear hrow hT hi hz hs hby hbig hpos
 go_enter Tryz.func177,Tryz.ntmps177
 go_wp2
 go_loopg [3,11] rows.length (fun g s3 s11 wr=>∃k:Nat,k<=rows.length/\rows.length-k<=g/\s3= .int .i64 (T k)/\s11= .int .i64 k/\wr=w)
 case atStart=>exact⟨0,Nat.zero_le _,by omega,by rw[hT0];rfl,rfl,rfl⟩
 case round=>
  obtain⟨k,hk,hg,rfl,rfl,rfl⟩:=hrel
  by_cases hlt:k<rows.length
  ·have key:∃(v:Value) (a:Option Addr) (c':Nat),wr.cell? ⟨blk,off+k,none⟩=some v/\v= .slice a rows[k].1 c':=by
    obtain⟨_,_,h|⟨a0,c',h,_⟩⟩:=A.out.row k rows[k] (by simp[hlt])
    ·exact⟨_,none,0,h.2,by rw[h.1]⟩
    ·exact⟨_,_,_,h,rfl⟩
   obtain⟨v,a,c',g1,rfl⟩:=key;have hx:wrap64 ((T k:Int)+(rows[k].1:Int))=(T (k+1):Int):=by have:=HS.out k hlt;have:=HB.out (k+1);unfold wrap64;omega
   have hx2:¬((T (k+1):Int)<0):=by omega
   clear hT0;generalize rows[k].1=m at*
   generalize hT1:T (k+1)=T1 at hx hx2;have L1:Aside (T (k+1)=T1):=hT1;clear hT1;generalize T k=T0 at*
   go_wp2
   go_roundg (rows.length-(k+1))
   case measure=>omega
   case rel=>exact⟨k+1,by omega,by omega,by rw[L1.out],by go_num,rfl⟩
  ·have hkn:k=rows.length:=by omega
   subst hkn;clear hT0 hlt hk hg
   rename World=>w0
   have G:=QI (T rows.length) w0 HP.out (HB.out _);generalize T rows.length=N at G⊢
   go_wp2_with (go_at_call 205;refine G.mono ?_;rintro e w2 ⟨v,rfl,o1,o2,o3⟩;have O:Aside (w2.ownsRow w0.heap.size 104 4 v 0 []/\Below w0.heap.size w0 w2):=⟨o1,o3⟩;clear o1 o2 o3)
   clear G
   go_loopg [6,27] rows.length (fun g s6 s27 wx=>∃k:Nat,k<=rows.length/\rows.length-k<=g/\s27= .int .i64 k/\Aside (wx.ownsRow w0.heap.size 104 4 s6 (T k) (mJ (rows.take k))/\Below w0.heap.size w0 wx))
   case atStart=>exact⟨0,Nat.zero_le _,by omega,rfl,by rw[HT.out];exact O⟩
   case round=>
    obtain⟨k,hk,hg,rfl,R⟩:=hrel
    by_cases hlt:k<rows.length
    ·have key:∃(v v':Value) (w':World),wr.cell? ⟨blk,off+k,none⟩=some v/\(Builtin.append_ #[105,105] 105 #[u6,v]).run Tryz.prog wr= .ok v' w'/\
      Aside (w'.ownsRow w0.heap.size 104 4 v' (T (k+1)) (mJ (rows.take (k+1)))/\Below w0.heap.size w0 w'):=by
      obtain⟨q1,q2,hq⟩:=A.out.row k rows[k] (by simp[hlt]);obtain⟨R1,R2⟩:=R.out;obtain⟨hi,hz,hs,hby⟩:=AI.out;have hTS:=HS.out k hlt;rw[hTS,qzl rows k rows[k] (by simp[hlt])];rcases hq with⟨h0,g1⟩|⟨a0,c',g1,g3⟩
      ·refine⟨_,u6,wr,by rw[R2.cell (nU g1)];exact g1,run_append_owned_none (P:=Tryz.prog) (w:=wr) w0.heap.size 105 105 104 i 4 Tryz.underlying105 hi u6 _ _ R1,?_⟩
       have hnil:rows[k].2=[]:=List.eq_nil_of_length_eq_zero (by simp[q1,h0]);rw[h0,hnil,List.append_nil,Nat.add_zero];exact⟨R1,R2⟩
      ·have hb8:=HB.out (k+1)
       obtain⟨v',w',e1,e2,e3,_⟩:=run_append_own (P:=Tryz.prog) (w:=wr) w0.heap.size 105 105 104 i _ 4 64 Tryz.underlying105 hi hz hs hby rfl (by omega) u6 _ _ R1 a0 rows[k].1 c' rows[k].2 q1
        (fun j u hj=>by
         have h1:=g3 j u hj;rw[R2.cell (nU h1)];exact h1)
        q2 (by unfold maxLen;omega) (by omega) R2.size
       exact⟨_,v',w',by rw[R2.cell (nU g1)];exact g1,e1,e2,R2.grown e3 R2.size (fun q hq=>(R1.lt q hq).1)⟩
     obtain⟨v,v',w',g1,g4,X⟩:=key;clear R
     go_wp2_with (at_builtin;refine Lib.wpList_append_run _ rfl _ _ _ _ rfl _ _ rfl rfl _ _ g4 ?_)
     go_roundg (rows.length-(k+1))
     case measure=>omega
     case rel=>exact⟨k+1,by omega,by omega,by go_num,X⟩
    ·have hkn:k=rows.length:=by omega
     subst hkn;clear hlt hk hg
     go_wp2
     go_ret
     obtain⟨⟨_,r2⟩,r3⟩:=R.out;have hTL:=HL.out;have hTP:=HP.out;rw[List.take_length]at r2;rcases r2 with⟨_,h0⟩|⟨gb,cap,cur,rfl,q1,q2,q3,q4,q5,q6⟩
     ·omega
     ·refine⟨gb,cap,cur,104,by simp[hTL],q1,q2,by omega,by omega,q4,fun j x hx=> ?_,r3⟩
      rw[<-q6,List.getElem?_take]at hx;split at hx
      ·simpa using hx
      ·simp at hx
theorem JO:(Tryz.prog.info? 28).map (fun i=>(i.zero,i.size,i.bytes))=some (some (Value.agg #[.int .i64 0,.int .i64 0,.slice none 0 0]),3,40):=by kernel_rfl
set_option maxRecDepth 100000 in
set_option maxHeartbeats 2000000 in
theorem Qa(ad:Addr)(n c:Nat)(cs:List Value)(w:World)(hsp:ad.spot=none)(hl:cs.length=n*3)(hn:n<=maxLen)(hbig:n*40<=140737488355328)
 (hcell:∀(j:Nat) (u:Value),cs[j]?=some u->w.cell? ⟨ad.block,ad.off+j,none⟩=some u) (h1:∀u,u∈cs->u.oneCell'=true):
 Calls Tryz.prog 207 #[.slice (some ad) n c] w fun e w'=>∃v,e= .returned v/\w'.ownsRow w.heap.size 28 3 v n cs/\v≠.slice none 0 0/\Below w.heap.size w w':=by
 obtain⟨i,hi,hzz⟩:=ay.1 JO;simp only[Prod.mk.injEq]at hzz;obtain⟨hz,hs,hby⟩:=hzz;obtain⟨b,off,sp⟩:=ad;simp only at hsp hcell;subst hsp;have A:Aside (∀(j:Nat) (u:Value),cs[j]?=some u->w.cell? ⟨b,off+j,none⟩=some u):=hcell;have q22:∀(w:World) (a:Option Addr) (n c n' c':Nat),(binOp .eql 26 (.slice a n c) (.slice none n' c')).run Tryz.prog w= .ok (.bool a.isNone) w:=fun w a n c n' c'=>Lib.run_eql_slice_nil w _ _ a n c n' c' Tryz.underlying26
 clear hcell
 go_enter Tryz.func207,Tryz.ntmps207
 go_wp2_with (at_builtin;refine wpList_append_own _ rfl _ _ 26 rfl w.heap.size 28 i _ 3 40 Tryz.underlying26 hi hz hs hby rfl (by decide) _ _ _ rfl (World.ownsRow_made w #[] 0 (Nat.le_refl _) (Nat.zero_le _) (by simp)) ⟨b,off,none⟩ n c cs rfl ?qc1 ?qc2 ?qc3 ?qc4 ?qc5 ?qc6 ?_)
 case qc1=>exact hl
 case qc2=>
  intro j u hj;rw[lG];exact Lib.cell?_alloc_some _ (A.out j u hj)
 case qc3=>exact h1
 case qc4=>rw[Nat.zero_add];exact hn
 case qc5=>rw[Nat.zero_add];exact hbig
 case qc6=>simp
 intro v' w1 hown hgrow hnil
 go_wp2
 go_ret
 refine⟨v',rfl,by simpa using hown,hnil,?_⟩;exact((Below.refl _ w).alloc (Nat.le_refl _) _).grown hgrow (by simp) (by intro k hk;simp[Value.ownBlock]at hk;omega)
theorem VE{w:World}{b o:Nat}{v:Value}{cur:Array Value}{e:TypeId}{z:Nat×Nat}(h:w.heap[b]?=some (.cells cur e z)):(w.setCell ⟨b,o,none⟩ v).heap[b]?=some (.cells (cur.setIfInBounds o v) e z):=by
 simp only[World.setCell,Array.getElem?_modify,h];simp
theorem nC(b:Nat)(e:TypeId)(z:Nat×Nat):∀(vs:List Value) (o:Nat) (w:World) (cur:Array Value),w.heap[b]?=some (.cells cur e z)->o+vs.length<=cur.size->
 ∃cur',(w.setCells b o vs).heap[b]?=some (.cells cur' e z)/\cur'.size=cur.size/\(∀j,cur'[j]?=if o<=j/\j<o+vs.length then vs[j-o]? else cur[j]?)/\∀B,B<=b->Below B w (w.setCells b o vs)
 | [],o,w,cur,h,_=>⟨cur,h,rfl,fun j=>by
  have:¬(o<=j/\j<o+0):=by omega
  simp only[List.length_nil];rw[if_neg this],fun B _=>Below.refl B w⟩
 |v::vs,o,w,cur,h,hl=>by
  simp only[List.length_cons]at hl;obtain⟨cur',h1,h2,h3,h4⟩:=nC b e z vs (o+1) (w.setCell ⟨b,o,none⟩ v) (cur.setIfInBounds o v) (VE h) (by simp;omega);refine⟨cur',h1,by rw[h2];simp,fun j=> ?_,fun B hB=>((Below.refl B w).setCell (p:=⟨b,o,none⟩) hB v).trans (h4 B hB)⟩;rw[h3];simp only[List.length_cons]
  by_cases c1:o+1<=j/\j<o+1+vs.length
  ·rw[if_pos c1,if_pos ⟨by omega,by omega⟩,show j-o=(j-(o+1))+1 by omega,List.getElem?_cons_succ]
  ·rw[if_neg c1]
   by_cases c2:j=o
   ·subst c2
    rw[if_pos ⟨Nat.le_refl _,by omega⟩,Nat.sub_self,List.getElem?_cons_zero,Array.getElem?_setIfInBounds,if_pos rfl,if_pos (by omega)]
   ·rw[if_neg (by omega),Array.getElem?_setIfInBounds_ne (by omega)]
theorem Sw{P:Program}(w:World)(t e ty:TypeId)(z:Value)(ht:P.underlying t=some (.slice e))(hv:∀w,(zeroValue e).run P w= .ok z w)(h1:∀u,u∈z.cells.toList->u.oneCell'=true)(b o c:Nat)
 (hc:∀j,j<z.cells.size->(w.cell? ⟨b,o+j,none⟩).isSome=true) (hf:∀j,j<z.cells.size->w.frozen? ⟨b,o+j,none⟩=false):
 (Builtin.clear_ #[t] ty #[.slice (some ⟨b,o,none⟩) 1 c]).run P w= .ok (.tuple #[]) (w.setCells b o z.cells.toList):=by
 have hzc:(Builtin.zeroCells z.cells 1).toList=z.cells.toList:=by
  simp[Builtin.zeroCells];apply List.ext_getElem
  ·simp
  ·intro i h1 h2
   simp only[List.getElem_map,List.getElem_range,Array.getElem_toList];simp at h1;rw[Nat.mod_eq_of_lt (by omega)];simp[h1]
 have hst:=run_storeCells_cells (P:=P) b o z.cells.toList 0 w (by simpa using hc) (by simpa using hf) h1;simp only[Nat.add_zero]at hst;simp[Builtin.clear_,run_underlying ht,hv,hzc,hst]
set_option maxRecDepth 100000 in
set_option maxHeartbeats 4000000 in
theorem O3(g cap n i:Nat)(cur:Array Value)(cs:List Value)(w:World)(hg:w.heap[g]?=some (.cells cur 28 (0,0)))(hcur:cur.size=cap*3)(htake:cur.toList.take (n*3)=cs)(hn:n<=cap)(hcm:cap<=maxLen)(hi:i<n)(h1:∀u,u∈cs->u.oneCell'=true):
 Calls Tryz.prog 206 #[.slice (some ⟨g,0,none⟩) n cap,.int .i64 i,.int .i64 ((i:Int)+1)] w fun e w'=>e= .returned (.slice (some ⟨g,0,none⟩) (n-1) cap)/\
  ∃cur',w'.heap[g]?=some (.cells cur' 28 (0,0))/\cur'.size=cap*3/\(∀(j:Nat) (u:Value),(cs.take (i*3)++cs.drop ((i+1)*3))[j]?=some u->cur'[j]?=some u)/\∀B,B<=g->Below B w w':=by
 obtain⟨i0,hi0,hzz⟩:=ay.1 JO;simp only[Prod.mk.injEq]at hzz;obtain⟨hz,hs,hby⟩:=hzz;have hlen:cs.length=n*3:=by rw[<-htake,List.length_take,Array.length_toList,hcur];omega
 have hget:∀(j:Nat) (u:Value),cs[j]?=some u->cur[j]?=some u:=fun j u hj=>by
  rw[<-htake,List.getElem?_take]at hj;split at hj
  ·simpa using hj
  ·simp at hj
 have hcell:∀(j:Nat),j<cap*3->(w.drew.cell? ⟨g,j,none⟩).isSome=true/\w.drew.frozen? ⟨g,j,none⟩=false:=fun j hj=>by
  have:j<cur.size:=by omega
  constructor
  ·show(w.cell? _).isSome=true
   simp[World.cell?,hg,this]
  ·show w.frozen? _=false
   simp[World.frozen?,hg]
 obtain⟨news,hnews⟩:∃news,news=cs.drop ((i+1)*3):=⟨_,rfl⟩;have hnl:news.length=(n-(i+1))*3:=by rw[hnews,List.length_drop,hlen,Nat.sub_mul]
 obtain⟨A,hA,hsrc⟩:∃A:Addr,(if cap=i+1 then some (⟨g,0,none⟩:Addr)else some ⟨g,(i+1)*3,none⟩)=some A/\Hid (∀t u,news[t]?=some u->w.drew.cell? (A.add t)=some u):=by
  by_cases h:cap=i+1
  ·refine⟨⟨g,0,none⟩,by simp[h],fun t u hu=> ?_⟩
   have h0:news.length=0:=by rw[hnl];omega
   rw[List.length_eq_zero_iff.1 h0]at hu;simp at hu
  ·refine⟨⟨g,(i+1)*3,none⟩,by simp[h],fun t u hu=> ?_⟩
   rw[lG];show w.cell? _=some u;rw[hnews,List.getElem?_drop]at hu;have:=hget _ _ hu;simp[World.cell?,hg,this]
 have s1:Hid (news.length=(n-(i+1))*3):=hnl;have s2:Hid (∀u∈news,u.oneCell'=true):=fun u hu=>h1 u (by rw[hnews]at hu;exact List.mem_of_mem_drop hu)
 have s3:Hid (∀t,t<news.length->(w.drew.cell? ⟨g,0+i*3+t,none⟩).isSome=true/\w.drew.frozen? ⟨g,0+i*3+t,none⟩=false):=fun t ht=>by
  rw[hnl]at ht;exact hcell _ (by omega)
 obtain⟨W1,hW1⟩:∃W1,W1=w.drew.setCells g (0+i*3) news:=⟨_,rfl⟩;obtain⟨cur1,k1,k2,k3,k4⟩:=nC g 28 (0,0) news (0+i*3) w.drew cur hg (by rw[hnl];omega);rw[<-hW1]at k1 k4;have hcl:∀ty,(Builtin.clear_ #[26] ty #[.slice (some ⟨g,(i+(n-(i+1)))*3,none⟩) (n-(i+(n-(i+1)))) (cap-(i+(n-(i+1))))]).run Tryz.prog W1= .ok (.tuple #[]) (W1.setCells g ((i+(n-(i+1)))*3) [.int .i64 0,.int .i64 0,.slice none 0 0]):=fun ty=>by
  have e:n-(i+(n-(i+1)))=1:=by omega
  rw[e];have hv:∀w,(zeroValue 28).run Tryz.prog w= .ok (Value.agg #[.int .i64 0,.int .i64 0,.slice none 0 0]) w:=fun w=>by simp[zeroValue,typeInfo,hi0,hz]
  refine Sw W1 _ _ ty _ Tryz.underlying26 hv (fun u hu=> ?_) g _ _ (fun j hj=> ?_) (fun j hj=> ?_)
  ·simp[Value.cells]at hu;rcases hu with rfl|rfl|rfl<;>rfl
  ·simp[Value.cells]at hj
   have:(i+(n-(i+1)))*3+j<cur1.size:=by omega
   simp[World.cell?,k1,this]
  ·simp[World.frozen?,k1]
 have X:Aside (∀(u:Nat),u=u):=fun _=>rfl
 have hW:Hid (W1=w.drew.setCells g (0+i*3) news):=hW1;have K:Aside (W1.heap[g]?=some (.cells cur1 28 (0,0))/\cur1.size=cur.size/\(∀j,cur1[j]?=if 0+i*3<=j/\j<0+i*3+news.length then news[j-(0+i*3)]? else cur[j]?)/\∀B,B<=g->Below B w.drew W1):=⟨k1,k2,k3,k4⟩;have HN:Aside (news=cs.drop ((i+1)*3)/\cs.length=n*3/\cur.size=cap*3):=⟨hnews,hlen,hcur⟩;have HG:Aside (∀(j:Nat) (u:Value),cs[j]?=some u->cur[j]?=some u):=hget;have hic:i<=cap:=by omega
 have hjc:i+1<=cap:=by omega
 have hcap63:cap<=9223372036854775807:=by unfold maxLen at hcm;omega
 have hq1:(0:Int)<=(i:Int)+1:=by omega
 have hq2:(i:Int)+1<=(n:Int):=by omega
 have mixed:Tryz.prog.follows .mixedOrders=true:=by kernel_rfl
 clear hW1 k1 k2 k3 k4 hget hnews hlen hcell hnl htake hg hcur h1
 go_enter Tryz.func206,Tryz.ntmps206
 go_wp2_with fail
 go_region_law_o (refine step_append_room rfl (.tmp 22) (.tmp 25) 26 rfl 28 i0 3 Tryz.underlying26 hi0 hs g 0 i cap (by simp[Act.eval,Act.put]) A (n-(i+1)) (cap-(i+1)) news (by simp[Act.eval,Act.put]) s1.out hsrc.out s2.out (by omega) s3.out ?_;rw[<-hW.out])
 go_wp2
 go_ret
 obtain⟨k1,k2,k3,k4⟩:=K.out;obtain⟨n1,n2,n3⟩:=HN.out;obtain⟨cur2,m1,m2,m3,m4⟩:=nC g 28 (0,0) [.int .i64 0,.int .i64 0,.slice none 0 0] ((i+(n-(i+1)))*3) W1 cur1 k1 (by simp;omega);refine⟨by rw[show i+(n-(i+1))=n-1 by omega];rfl,cur2,m1,by omega,fun j u hj=> ?_,fun B hB=>(((Below.refl B w).drew).trans (k4 B hB)).trans (m4 B hB)⟩;have hjl:=(List.getElem?_eq_some_iff.1 hj).1;simp only[ek,List.length_take,List.length_drop,n2]at hjl;have hjn:j<(n-1)*3:=by omega
 rw[m3,if_neg (by simp;omega),k3];rw[List.getElem?_append]at hj;simp only[List.length_take,n2]at hj
 by_cases c:j<i*3
 ·rw[if_pos (by omega),List.getElem?_take,if_pos c]at hj
  rw[if_neg (by omega)];exact HG.out j u hj
 ·rw[if_neg (by omega)]at hj
  have e:min (i*3) (n*3)=i*3:=by omega
  rw[e]at hj;have hl:news.length=(n-(i+1))*3:=s1.out;rw[if_pos (by rw[hl];omega),n1,show j-(0+i*3)=j-i*3 by omega];exact hj
set_option maxRecDepth 100000 in
set_option maxHeartbeats 4000000 in
theorem Pi:J8 Tryz.prog 178:=by
 intro ad n c i cs w hsp hl hi hn hbig hcell h1;have C:=Qa ad n c cs w hsp hl hn hbig hcell h1;have H1:Aside (∀u,u∈cs->u.oneCell'=true):=h1;have hadd:wrap64 ((i:Int)+1)=(i:Int)+1:=by unfold maxLen at hn;unfold wrap64;omega
 clear hcell h1
 go_enter Tryz.func178,Tryz.ntmps178
 go_wp2_with (first
  |(go_at_call 207;refine C.mono ?_;rintro e w2 ⟨v,rfl,⟨o1,o2⟩,hv,o3⟩
    obtain⟨g,cap,cur,rfl,q1,q2,q3,q4,q5,q6⟩:∃g cap cur,v= .slice (some ⟨g,0,none⟩) n cap/\w.heap.size<=g/\w2.heap[g]?=some (.cells cur 28 (0,0))/\n<=cap/\cap<=maxLen/\cur.size=cap*3/\cur.toList.take (n*3)=cs:=by
     rcases o2 with⟨h,_⟩|h
     ·exact absurd h hv
     ·exact h
    have O:Aside (Below w.heap.size w w2/\w.heap.size<=g):=⟨o3,q1⟩;have D:=O3 g cap n i cur cs w2 q2 q5 q6 q3 q4 hi H1.out;have CM:Aside (cap<=maxLen/\n<=cap):=⟨q4,q3⟩;clear o1 o2 o3 hv q1 q2 q3 q4 q5 q6)
  |(go_at_call 206;refine D.mono ?_;rintro e w3 ⟨rfl,cur',d1,d2,d3,d4⟩
    have R:Aside (w3.heap[g]?=some (.cells cur' 28 (0,0))/\cur'.size=cap*3/\(∀(j:Nat) (u:Value),(cs.take (i*3)++cs.drop ((i+1)*3))[j]?=some u->cur'[j]?=some u)/\∀B,B<=g->Below B w2 w3):=⟨d1,d2,d3,d4⟩;clear d1 d2 d3 d4))
 go_ret
 obtain⟨r1,r2,r3,r4⟩:=R.out;obtain⟨o1,o2⟩:=O.out;obtain⟨c1,c2⟩:=CM.out;exact⟨g,cap,cur',28,rfl,o2,r1,by omega,by omega,c1,r3,o1.trans (r4 _ o2)⟩
theorem uP:(Tryz.prog.info? 38).map (fun i=>(i.zero,i.size,i.bytes))=some (some (Value.agg #[.int .i64 0,.int .i64 0,.int .i64 0,.slice none 0 0]),4,48):=by kernel_rfl
theorem A5{P:Program}(w:World)(dT sT ty elem:TypeId)(sz b o dLen dCap:Nat)(a:Addr)(sLen sCap m:Nat)(cs:List Value)
 (hu:P.underlying dT=some (.slice elem)) (hs:(P.info? elem).map (·.size)=some sz) (hm:Nat.min sLen dLen=m) (hn:cs.length=m*sz)
 (hsrc:∀j v,cs[j]?=some v->w.cell? (a.add j)=some v) (hc:∀j,j<cs.length->(w.cell? ⟨b,o+j,none⟩).isSome=true) (hf:∀j,j<cs.length->w.frozen? ⟨b,o+j,none⟩=false) (h1:∀v∈cs,v.oneCell'=true):
 (Builtin.copy_ #[dT,sT] ty #[.slice (some ⟨b,o,none⟩) dLen dCap,.slice (some a) sLen sCap]).run P w= .ok (goInt m) (w.setCells b o cs):=by
 have hl:=run_loadCells_list (P:=P) w a cs hsrc;have hst:=run_storeCells_cells (P:=P) b o cs 0 w (by simpa using hc) (by simpa using hf) h1;cases hq:P.info? elem with
 |none=>simp[hq]at hs
 |some i=>
  have hi:i.size=sz:=by simpa[hq]using hs
  have hcap:(Builtin.firstCells sz m (.slice (some a) sLen sCap)).run P w= .ok cs.toArray w:=by
   rw[hn]at hl;simp[Builtin.firstCells,hl]
  simp only[Nat.add_zero]at hst;simp[Builtin.copy_,run_underlying hu,Builtin.lenOf,sizeOf,typeInfo,hq,hi,hm,hcap,hst]
theorem Ib(b:Nat)(vs:List Value)(o:Nat)(w:World)(h:∀j,j<vs.length->(w.cell? ⟨b,o+j,none⟩).isSome=true)(k:Nat)(hk:(w.cell? ⟨b,k,none⟩).isSome=true):((w.setCells b o vs).cell? ⟨b,k,none⟩).isSome=true:=by
 by_cases c:o<=k/\k<o+vs.length
 ·obtain⟨j,rfl⟩:∃j,k=o+j:=⟨k-o,by omega⟩
  rw[World.cell?_setCells_in b vs o w h j (by omega)];rfl
 ·rw[World.cell?_setCells_out b vs o w _ (fun _ _=>by simp only;omega)];exact hk
set_option maxHeartbeats 4000000 in
set_option maxRecDepth 100000 in
theorem OP(g n c i vb:Nat)(cur:Array Value)(cs vs:List Value)(w:World)(hi:i<n)(hroom:n+1<=c)(hcm:c<=maxLen)(hvb:vb≠g)
 (hg:w.heap[g]?=some (.cells cur 38 (0,0))) (hcur:cur.size=c*4) (htake:cur.toList.take (n*4)=cs) (hv:w.heap[vb]?=some (.cells vs.toArray 38 (0,0))) (hvl:vs.length=4) (h1c:∀v∈cs,v.oneCell'=true) (h1v:∀v∈vs,v.oneCell'=true):
 Calls Tryz.prog 211 #[.slice (some ⟨g,0,none⟩) n c,.int .i64 i,.slice (some ⟨vb,0,none⟩) 1 1] w fun e w'=>
  e= .returned (.slice (some ⟨g,0,none⟩) (n+1) c)/\w'=(w.drew.setCells g ((i+1)*4) (cs.drop (i*4))).setCells g (i*4) vs:=by
 obtain⟨i0,hi0,hzz⟩:=ay.1 uP;simp only[Prod.mk.injEq]at hzz;obtain⟨hz,hs,hby⟩:=hzz;have hc63:c<=9223372036854775807:=by unfold maxLen at hcm;omega
 have hcl:cs.length=n*4:=by rw[<-htake,List.length_take,Array.length_toList,hcur];omega
 have hcs:∀(j:Nat) (v:Value),cs[j]?=some v->w.cell? ⟨g,j,none⟩=some v:=fun j v hj=>by
  rw[<-htake,List.getElem?_take]at hj;split at hj
  ·simp only[Array.getElem?_toList]at hj
   simp[World.cell?,hg,hj]
  ·simp at hj
 have hsp:∀j,j<(n+1)*4->(w.cell? ⟨g,j,none⟩).isSome=true:=fun j hj=>by
  have:j<cur.size:=by omega
  simp[World.cell?,hg,this]
 have hfz:∀j,w.frozen? ⟨g,j,none⟩=false:=fun j=>by simp[World.frozen?,hg]
 have hvs:∀(j:Nat) (v:Value),vs[j]?=some v->w.cell? ⟨vb,0+j,none⟩=some v:=fun j v hj=>by
  simp[World.cell?,hv,hj]
 have hz2:¬((i:Int)=(n:Int)):=by omega
 have hsz:(Tryz.prog.info? 38).map (·.size)=some 4:=by rw[hi0];simp[hs]
 have hov:∀lb cb,(callFunc 231 #[.slice (some ⟨vb,0,none⟩) 1 1,.slice (some ⟨g,(i+1)*4,none⟩) lb cb]).run Tryz.prog w= .ok (.value (.bool false)) w:=fun lb cb=>by
  rw[run_callFunc_extern (f:=231) (fn:=Tryz.f231) (by kernel_rfl) (by kernel_rfl) (by kernel_rfl) (by kernel_rfl) (e:=Extern.SlicesOverlaps.overlaps #[25,25] #[4]) (by kernel_rfl),
   Lib.run_overlaps_apart w 25 4 38 Tryz.underlying25 4 (fun w=>by simp[sizeOf,typeInfo,hi0,hs]) ⟨vb,0,none⟩ ⟨g,(i+1)*4,none⟩ 1 1 lb cb hvb 38 38 4 (c*4) (by simp[World.shape?,hv,hvl]) (by simp[World.shape?,hg,hcur]) (by omega) (by simp[World.frozen?,hv]) (by simp[World.frozen?,hv])]
  rfl
 have hdl:(cs.drop (i*4)).length=(n-i)*4:=by rw[List.length_drop,hcl];omega
 have mixed:Tryz.prog.follows .mixedOrders=true:=by kernel_rfl
 have hw1:IntKind.i64.wrap ((i:Int)+1)=(i:Int)+1:=by rw[IntKind.wrap_i64];omega
 have hb1:(0:Int)<=(i:Int)+1:=by omega
 have hin:i<=n:=by omega
 have htn:((i:Int)+1).toNat=i+1:=by omega
 have hb2:¬(c=i+1):=by omega
 have hb3:(i:Int)<=(n:Int)+1:=by omega
 have hb4:¬(c=i):=by omega
 have hcp1:∀ty dc sc,(Builtin.copy_ #[25,25] ty #[.slice (some ⟨g,(i+1)*4,none⟩) (n-i) dc,.slice (some ⟨g,i*4,none⟩) (n+1-i) sc]).run Tryz.prog w.drew= .ok (goInt ((n-i:Nat):Int)) (w.drew.setCells g ((i+1)*4) (cs.drop (i*4))):=fun ty dc sc=>
  A5 w.drew _ _ ty 38 4 g ((i+1)*4) (n-i) dc ⟨g,i*4,none⟩ (n+1-i) sc (n-i) (cs.drop (i*4)) Tryz.underlying25 hsz (by simp only[Nat.min_def];split<;>omega) hdl
   (fun j v hj=>by rw[lG];exact hcs _ v (by rwa[List.getElem?_drop]at hj))
   (fun j hj=>hsp _ (by rw[hdl]at hj;omega)) (fun j hj=>hfz _) (fun v hv=>h1c v (List.mem_of_mem_drop hv))
 obtain⟨W1,hW1⟩:∃W1,W1=w.drew.setCells g ((i+1)*4) (cs.drop (i*4)):=⟨_,rfl⟩;have hsp1:∀k,k<(n+1)*4->(W1.cell? ⟨g,k,none⟩).isSome=true:=fun k hk=>by
  rw[hW1];exact Ib g _ _ w.drew (fun j hj=>hsp ((i+1)*4+j) (by rw[hdl]at hj;omega)) _ (hsp k hk)
 have hcp2:∀(W:World),(∀x,W.cell? x=W1.cell? x)->(∀x,W.frozen? x=W1.frozen? x)->∀ty dc,(Builtin.copy_ #[25,25] ty #[.slice (some ⟨g,i*4,none⟩) (n+1-i) dc,.slice (some ⟨vb,0,none⟩) 1 1]).run Tryz.prog W= .ok (goInt ((1:Nat):Int)) (W.setCells g (i*4) vs):=fun W hWc hWf ty dc=>
  A5 W _ _ ty 38 4 g (i*4) (n+1-i) dc ⟨vb,0,none⟩ 1 1 1 vs Tryz.underlying25 hsz (by simp only[Nat.min_def];split<;>omega) (by rw[hvl])
   (fun j v hj=>by
    rw[lG,hWc,hW1,World.cell?_setCells_out g _ _ _ _ (fun h _=>absurd h hvb)];exact hvs j v hj)
   (fun j hj=>by rw[hWc];exact hsp1 _ (by omega)) (fun j hj=>by rw[hWf,hW1,World.frozen?_setCells];exact hfz _) h1v
 rw[<-hW1]at hcp1;have HW:Aside (W1=w.drew.setCells g ((i+1)*4) (cs.drop (i*4))):=hW1;clear hcs hsp hfz hvs hsp1 hg hv htake hcur hcl hdl h1c h1v hW1
 go_enter Tryz.func211,Tryz.ntmps211
 go_wp2_with (simp only[hov])
 go_region_law_o (refine step_copy_runI rfl _ _ 25 25 rfl _ _ (by simp[Act.eval,Act.put]) (by simp[Act.eval,Act.put]) (hcp1 _ _ _) ?_)
 go_wp2_with (at_builtin;refine wpList_copy_runI _ rfl _ _ 25 25 rfl _ _ rfl rfl (hcp2 _ (fun _=>rfl) (fun _=>rfl) _ _) ?_)
 go_ret
 first|exact⟨rfl,rfl⟩|exact⟨rfl,by rw[HW.out]⟩
theorem LX{cs vs:List Value}{i n:Nat}(hcl:cs.length=n*4)(hvl:vs.length=4)(hi:i<=n)(j:Nat):(k_ cs vs i 4)[j]?=if j<i*4 then cs[j]? else if j<(i+1)*4 then vs[j-i*4]? else cs[j-4]?:=by
 unfold k_
 by_cases c1:j<i*4
 ·rw[if_pos c1,cr,cf (by simp;omega),List.getElem?_take,if_pos c1]
 ·rw[if_neg c1]
  by_cases c2:j<(i+1)*4
  ·rw[if_pos c2,cf (by simp;omega),cF (by simp;omega)]
   simp only[List.length_take]
   congr 1;omega
  ·rw[if_neg c2,cF (by simp;omega),List.getElem?_drop]
   simp only[ek,List.length_take]
   congr 1;omega
set_option maxHeartbeats 4000000 in
set_option maxRecDepth 100000 in
theorem OI(g n c i vb:Nat)(cur:Array Value)(cs vs:List Value)(w:World)(hi:i<n)(hnc:n<=c)(hroom:c<n+1)(hcm:c<=maxLen)(hbig:(n+1)*48<=140737488355328)
 (hg:w.heap[g]?=some (.cells cur 38 (0,0))) (hcur:cur.size=c*4) (htake:cur.toList.take (n*4)=cs) (hv:w.heap[vb]?=some (.cells vs.toArray 38 (0,0))) (hvl:vs.length=4) (h1c:∀v∈cs,v.oneCell'=true) (h1v:∀v∈vs,v.oneCell'=true):
 Calls Tryz.prog 211 #[.slice (some ⟨g,0,none⟩) n c,.int .i64 i,.slice (some ⟨vb,0,none⟩) 1 1] w fun e w'=>
  ∃(G:Nat) (ROW:Array Value),n+1<=G/\G<=maxLen/\ROW.size=G*4/\(∀j,j<i*4->ROW[j]?=cs[j]?)/\e= .returned (.slice (some ⟨w.heap.size,0,none⟩) (n+1) G)/\
  w'=(((w.alloc (.cells ROW 38)).drew.setCells w.heap.size (i*4) vs).drew).setCells w.heap.size ((i+1)*4) (cs.drop (i*4)):=by
 obtain⟨i0,hi0,hzz⟩:=ay.1 uP;simp only[Prod.mk.injEq]at hzz;obtain⟨hz0,hzs,hzb⟩:=hzz;have hc63:c<=9223372036854775807:=by unfold maxLen at hcm;omega
 have hcl:cs.length=n*4:=by rw[<-htake,List.length_take,Array.length_toList,hcur];omega
 have hcs:∀(j:Nat) (v:Value),cs[j]?=some v->w.cell? ⟨g,j,none⟩=some v:=fun j v hj=>by
  rw[<-htake,List.getElem?_take]at hj;split at hj
  ·simp only[Array.getElem?_toList]at hj
   simp[World.cell?,hg,hj]
  ·simp at hj
 have hvs:∀(j:Nat) (v:Value),vs[j]?=some v->w.cell? ⟨vb,0+j,none⟩=some v:=fun j v hj=>by
  simp[World.cell?,hv,hj]
 have mixed:Tryz.prog.follows .mixedOrders=true:=by kernel_rfl
 have hz2:¬((i:Int)=(n:Int)):=by omega
 have hz3:(c:Int)<(n:Int)+1:=by omega
 have hsz:(Tryz.prog.info? 38).map (·.size)=some 4:=by rw[hi0];simp[hzs]
 have hbw:g<w.heap.size:=(Array.getElem?_eq_some_iff.1 hg).1;have hvw:vb<w.heap.size:=(Array.getElem?_eq_some_iff.1 hv).1;have hkk:(n:Int)+1-(i:Int)=((n+1-i:Nat):Int):=by omega
 have hik:i+(n+1-i)=n+1:=by omega
 have hold:(Builtin.firstCells i0.size i (.slice (some ⟨g,0,none⟩) i c)).run Tryz.prog w.drew= .ok (cs.take (i*4)).toArray w.drew:=by
  rw[hzs];exact run_firstCells_some w.drew 4 i ⟨g,0,none⟩ i c (cs.take (i*4)) (by rw[List.length_take];omega) (fun j v hj=>by
   rw[lG];rw[List.getElem?_take]at hj;split at hj
   ·rw[Nat.zero_add];exact hcs j v hj
   ·cases hj)
 have hrz:∀ty,(Builtin.append_ #[25,3] ty #[.slice (some ⟨g,0,none⟩) i c,.int .i64 ((n:Int)+1-(i:Int))]).run Tryz.prog w=
  .ok (.slice (some ⟨w.heap.size,0,none⟩) (n+1) (grownCap w (n+1) c 38)) (w.drew.alloc (.cells ((cs.take (i*4)).toArray++Builtin.zeroCells (Value.agg #[.int .i64 0,.int .i64 0,.int .i64 0,.slice none 0 0]).cells (n+1-i)++Builtin.zeroCells (Value.agg #[.int .i64 0,.int .i64 0,.int .i64 0,.slice none 0 0]).cells (grownCap w (n+1) c 38-(n+1))) 38)):=fun ty=>by
  have h:=Lib.run_append_grow_zeros w 25 3 ty 38 i0 _ .i64 .i64 Tryz.underlying25 Tryz.underlying3 hi0 hz0 (some ⟨g,0,none⟩) i c (cs.take (i*4)) hold (n+1-i) (by omega) (by omega) (by omega) (by omega) (by rw[hzb];omega) (by rw[hzb,hik];exact growslice_fits hroom hbig);rw[hik]at h;rw[hkk];exact h
 obtain⟨G,hG⟩:∃G,G=grownCap w (n+1) c 38:=⟨_,rfl⟩;obtain⟨ROW,hROW⟩:∃ROW:Array Value,ROW=(cs.take (i*4)).toArray++Builtin.zeroCells (Value.agg #[.int .i64 0,.int .i64 0,.int .i64 0,.slice none 0 0]).cells (n+1-i)++Builtin.zeroCells (Value.agg #[.int .i64 0,.int .i64 0,.int .i64 0,.slice none 0 0]).cells (G-(n+1)):=⟨_,rfl⟩;rw[<-hG]at hrz;rw[<-hROW]at hrz;have hGn:n+1<=G:=by rw[hG];exact grownCap_ge w _ _ _
 have hGm:G<=maxLen:=by rw[hG];exact grownCap_le_maxLen w (n+1) c 38 (by unfold maxLen;omega)
 have hG63:G<=9223372036854775807:=by unfold maxLen at hGm;omega
 have hRs:ROW.size=G*4:=by
  rw[hROW];simp[Builtin.zeroCells,Value.cells];omega
 have hRg:∀j,j<i*4->ROW[j]?=cs[j]?:=fun j hj=>by
  rw[hROW,Array.append_assoc,Array.getElem?_append_left (by simp;omega)];simp[List.getElem?_take,hj]
 obtain⟨W1,hW1⟩:∃W1,W1=w.drew.alloc (.cells ROW 38):=⟨_,rfl⟩;rw[<-hW1]at hrz;have hN:∀j,j<(n+1)*4->(W1.cell? ⟨w.heap.size,j,none⟩).isSome=true:=fun j hj=>by
  rw[hW1,World.cell?_alloc_at (w:=w.drew) ROW _ w.heap.size j rfl,Array.getElem?_eq_getElem (by omega)];rfl
 have hNf:∀j,W1.frozen? ⟨w.heap.size,j,none⟩=false:=fun j=>by rw[hW1];exact World.frozen?_alloc_at (w:=w.drew) ROW _ w.heap.size j rfl
 have hOb:∀j v,w.cell? ⟨g,j,none⟩=some v->W1.cell? ⟨g,j,none⟩=some v:=fun j v h=>by rw[hW1,World.cell?_alloc_past (w:=w.drew) _ g j hbw];exact h
 have hOv:∀j v,w.cell? ⟨vb,j,none⟩=some v->W1.cell? ⟨vb,j,none⟩=some v:=fun j v h=>by rw[hW1,World.cell?_alloc_past (w:=w.drew) _ vb j hvw];exact h
 have hcpA:∀(W:World),(∀x,W.cell? x=W1.cell? x)->(∀x,W.frozen? x=W1.frozen? x)->∀ty dc,(Builtin.copy_ #[25,25] ty #[.slice (some ⟨w.heap.size,i*4,none⟩) (n+1-i) dc,.slice (some ⟨vb,0,none⟩) 1 1]).run Tryz.prog W= .ok (goInt ((1:Nat):Int)) (W.setCells w.heap.size (i*4) vs):=fun W hWc hWf ty dc=>
  A5 W _ _ ty 38 4 w.heap.size (i*4) (n+1-i) dc ⟨vb,0,none⟩ 1 1 1 vs Tryz.underlying25 hsz (by simp only[Nat.min_def];split<;>omega) (by rw[hvl])
   (fun j v hj=>by rw[lG,hWc];exact hOv _ v (hvs j v hj))
   (fun j hj=>by rw[hWc];exact hN _ (by omega)) (fun j hj=>by rw[hWf];exact hNf _) h1v
 have hGi:¬(G=i):=by omega
 have hGim:¬(G=i+1):=by omega
 have hci:¬(c=i):=by omega
 have hbN:g≠w.heap.size:=by omega
 have hdl:(cs.drop (i*4)).length=(n-i)*4:=by rw[List.length_drop,hcl];omega
 have hcpB:∀(W:World),(∀x,W.cell? x=(W1.setCells w.heap.size (i*4) vs).cell? x)->(∀x,W.frozen? x=(W1.setCells w.heap.size (i*4) vs).frozen? x)->∀ty dc sc,(Builtin.copy_ #[25,25] ty #[.slice (some ⟨w.heap.size,(i+1)*4,none⟩) (n-i) dc,.slice (some ⟨g,i*4,none⟩) (n-i) sc]).run Tryz.prog W= .ok (goInt ((n-i:Nat):Int)) (W.setCells w.heap.size ((i+1)*4) (cs.drop (i*4))):=fun W hWc hWf ty dc sc=>
  A5 W _ _ ty 38 4 w.heap.size ((i+1)*4) (n-i) dc ⟨g,i*4,none⟩ (n-i) sc (n-i) (cs.drop (i*4)) Tryz.underlying25 hsz (by simp only[Nat.min_def];split<;>omega) hdl
   (fun j v hj=>by
    rw[lG,hWc,World.cell?_setCells_out _ _ _ _ _ (fun h _=>absurd h hbN)];exact hOb _ v (hcs _ v (by rwa[List.getElem?_drop]at hj)))
   (fun j hj=>by rw[hWc];exact Ib _ _ _ _ (fun t ht=>hN _ (by omega)) _ (hN _ (by rw[hdl]at hj;omega)))
   (fun j hj=>by rw[hWf,World.frozen?_setCells];exact hNf _) (fun v hv=>h1c v (List.mem_of_mem_drop hv))
 subst hW1;have hE1:∀x,((w.alloc (.cells ROW 38)).drew).cell? x=(w.drew.alloc (.cells ROW 38)).cell? x:=fun x=>rfl
 have hE2:∀x,((w.alloc (.cells ROW 38)).drew).frozen? x=(w.drew.alloc (.cells ROW 38)).frozen? x:=fun x=>rfl
 have hF1:∀x,(((w.alloc (.cells ROW 38)).drew.setCells w.heap.size (i*4) vs).drew).cell? x=((w.drew.alloc (.cells ROW 38)).setCells w.heap.size (i*4) vs).cell? x:=fun x=>rfl
 have hF2:∀x,(((w.alloc (.cells ROW 38)).drew.setCells w.heap.size (i*4) vs).drew).frozen? x=((w.drew.alloc (.cells ROW 38)).setCells w.heap.size (i*4) vs).frozen? x:=fun x=>rfl
 have hw1:IntKind.i64.wrap ((i:Int)+1)=(i:Int)+1:=by rw[IntKind.wrap_i64];omega
 have hb1:(0:Int)<=(i:Int)+1:=by omega
 have hin:i<=n:=by omega
 have htn:((i:Int)+1).toNat=i+1:=by omega
 have hb3:(i:Int)<=(n:Int):=by omega
 have FIN:Aside (n+1<=G/\G<=maxLen/\ROW.size=G*4/\∀j,j<i*4->ROW[j]?=cs[j]?):=⟨hGn,hGm,hRs,hRg⟩;clear hkk hik hold hROW hG hRs hRg hcs hvs hOb hOv hN hNf hg hv htake hcur hcl hdl h1c h1v
 go_enter Tryz.func211,Tryz.ntmps211
 go_wp2_with (first
  |(at_builtin;refine Lib.wpList_append_run _ rfl _ _ _ _ rfl _ _ rfl rfl _ _ (hrz _) ?_)
  |(at_builtin;refine wpList_copy_runI _ rfl _ _ 25 25 rfl _ _ rfl rfl (hcpA _ hE1 hE2 _ _) ?_)
  |(at_builtin;refine wpList_copy_runI _ rfl _ _ 25 25 rfl _ _ rfl rfl (hcpB _ (fun _=>rfl) (fun _=>rfl) _ _ _) ?_))
 go_region_law_o (refine step_copy_runI rfl _ _ 25 25 rfl (.slice (some ⟨w.heap.size,(i+1)*4,none⟩) (n-i) (G-(i+1))) (.slice (some ⟨g,i*4,none⟩) (n-i) (c-i)) (by simp[Act.eval,Act.put]) (by simp[Act.eval,Act.put]) (hcpB _ hF1 hF2 3 (G-(i+1)) (c-i)) ?_)
 go_wp2
 go_ret
 obtain⟨f1,f2,f3,f4⟩:=FIN.out;exact⟨G,ROW,f1,f2,f3,f4,rfl,rfl⟩
set_option maxRecDepth 100000 in
set_option maxHeartbeats 2000000 in
theorem qQ3(bv v:Int)(x1 x2 x3:Value)(h1:x1.oneCell'=true)(h2:x2.oneCell'=true)(h3:x3.oneCell'=true)(pb:Nat)(w:World)(hp:w.cell? ⟨pb,0,none⟩=some (.int .i64 v)):
 Calls Tryz.prog 210 #[.agg #[.int .i64 bv,x1,x2,x3],.pointer (some ⟨pb,0,none⟩)] w fun e w'=>e= .returned (.bool (decide (bv>v)))/\Below w.heap.size w w':=by
 have hlt:=nU hp;simp only at hlt;have hp2:∀(arr:Array Value) (t:TypeId),(w.alloc (.cells arr t)).cell? ⟨pb,0,none⟩=some (.int .i64 v):=fun arr t=>Lib.cell?_alloc_some _ hp
 have hb0:(w.alloc (.cells #[.int .i64 bv,x1,x2,x3] 38)).cell? ⟨w.heap.size,0,none⟩=some (.int .i64 bv):=by rw[World.cell?_alloc_at (w:=w) _ _ w.heap.size 0 rfl];rfl
 go_enter Tryz.func210,Tryz.ntmps210
 go_wp2
 go_ret
 exact⟨rfl,(Below.refl _ w).alloc (Nat.le_refl _) _⟩
theorem Tk(xs:List gR):(ea xs).length=xs.length*4:=by
 induction xs with
 |nil=>rfl
 |cons x xs ih=>unfold ea at*;simp only[List.flatMap_cons,ek,ih,List.length_cons];simp[kR];omega
theorem IM:∀(xs:List gR) (k:Nat) (hk:k<xs.length) (t:Nat),t<4->(ea xs)[k*4+t]?=(kR xs[k])[t]?
 |x::xs,0,_,t,ht=>by
  unfold ea;rw[List.flatMap_cons,cf (by simp[kR];omega)];simp
 |x::xs,k+1,hk,t,ht=>by
  have:=IM xs k (by simpa using hk) t ht;unfold ea at*
  rw[List.flatMap_cons,cF (by simp[kR];omega)];rw[show(k+1)*4+t-(kR x).length=k*4+t by simp[kR];omega,this];rfl
theorem BdsAt.one'{w:World}{base:Option Addr}{n c:Nat}{xs:List gR}(h:BdsAt w base n c xs):∀u,u∈ea xs->u.oneCell'=true:=fun u hu=>by
 unfold ea at hu;obtain⟨x,hx,h2⟩:=List.mem_flatMap.1 hu;obtain⟨o1,o2,o3⟩:=h.one x hx;simp only[kR,List.mem_cons,List.not_mem_nil,or_false]at h2;rcases h2 with rfl|rfl|rfl|rfl
 ·rfl
 ·exact o1
 ·exact o2
 ·exact o3
set_option maxRecDepth 100000 in
set_option maxHeartbeats 4000000 in
theorem ZN{w:World}{base:Option Addr}{n c:Nat}{xs:List gR}(h:BdsAt w base n c xs)(v:Int)(pb:Nat)(hp:w.cell? ⟨pb,0,none⟩=some (.int .i64 v))(r:Int)(hr:r=if gE xs v<n then(gE xs v:Int)else-1):
 Calls Tryz.prog 121 #[.slice base n c,.func (.func 210) #[] #[.pointer (some ⟨pb,0,none⟩)]] w fun e w'=>e= .returned (.int .i64 r)/\Below w.heap.size w w':=by
 have hn63:n<=9223372036854775807:=by have:=h.lim;omega
 have H:Aside (BdsAt w base n c xs):=h;have HP:Aside (w.cell? ⟨pb,0,none⟩=some (.int .i64 v)):=hp;have HR:Aside (r=if gE xs v<n then(gE xs v:Int)else-1):=hr;clear h hp hr
 go_enter Tryz.func121,Tryz.ntmps121
 go_wp2
 go_loopg [8] n (fun g s8 wr=>∃k:Nat,k<=n/\n-k<=g/\s8= .int .i64 k/\Aside ((∀(j:Nat) (hj:j<xs.length),j<k->¬xs[j].1>v)/\Below w.heap.size w wr))
 case atStart=>exact⟨0,Nat.zero_le _,by omega,rfl,⟨fun j hj h0=>by omega,Below.refl _ _⟩⟩
 case round=>
  obtain⟨k,hk,hg,rfl,R⟩:=hrel
  by_cases hlt:k<n
  ·have key:∃(ab ao:Nat) (b:Int) (x1 x2 x3:Value),base=some ⟨ab,ao,none⟩/\wr.cell? ⟨ab,ao+k*4,none⟩=some (.int .i64 b)/\wr.cell? ⟨ab,ao+k*4+1,none⟩=some x1/\wr.cell? ⟨ab,ao+k*4+2,none⟩=some x2/\wr.cell? ⟨ab,ao+k*4+3,none⟩=some x3/\
    Aside (x1.oneCell'=true/\x2.oneCell'=true/\x3.oneCell'=true/\(∀(hj:k<xs.length),xs[k].1=b)):=by
    have hkx:k<xs.length:=by have:=H.out.len;omega
    cases base with
    |none=>have:=(H.out.nil rfl).1;omega
    |some ad=>
     obtain⟨hsp,hcell⟩:=H.out.cell ad rfl (by omega);obtain⟨ab,ao,sp⟩:=ad;simp only at hsp hcell;subst hsp;have hx:=IM xs k hkx;obtain⟨o1,o2,o3⟩:=H.out.one _ (List.getElem_mem hkx);have hc:∀(t:Nat) (u:Value),t<4->(kR xs[k])[t]?=some u->wr.cell? ⟨ab,ao+(k*4+t),none⟩=some u:=fun t u ht hu=>by
      have h1:=hcell (k*4+t) u (by rw[hx t ht];exact hu);rw[R.out.2.cell (nU h1)];exact h1
     exact⟨ab,ao,xs[k].1,xs[k].2.1,xs[k].2.2.1,xs[k].2.2.2,rfl,hc 0 _ (by omega) rfl,hc 1 _ (by omega) rfl,hc 2 _ (by omega) rfl,hc 3 _ (by omega) rfl,⟨o1,o2,o3,fun _=>rfl⟩⟩
   obtain⟨ab,ao,b,x1,x2,x3,rfl,g0,g1,g2,g3,X⟩:=key;have hpw:wr.cell? ⟨pb,0,none⟩=some (.int .i64 v):=by rw[R.out.2.cell (nU HP.out)];exact HP.out
   have G:=qQ3 b v x1 x2 x3 X.out.1 X.out.2.1 X.out.2.2.1 pb wr hpw;clear hpw
   by_cases hb:b>v
   ·have hd:decide (b>v)=true:=by simpa using hb
    rw[hd]at G
    go_wp2_with (go_at_call 210;refine G.mono ?_;rintro e w2 ⟨rfl,o⟩;have O:Aside (Below wr.heap.size wr w2):=o;clear o)
    go_ret
    obtain⟨r1,r2⟩:=R.out;have hkx:k<xs.length:=by have:=H.out.len;omega
    have hpos:gE xs v=k:=by
     unfold gE;rw[List.findIdx_eq hkx];refine⟨by rw[X.out.2.2.2 hkx];exact hd,fun j hj=>by simpa using r1 j (by omega) hj⟩
    refine⟨by rw[HR.out,hpos,if_pos hlt];rfl,r2.trans (O.out.mono r2.size)⟩
   ·have hd:decide (b>v)=false:=by simpa using hb
    rw[hd]at G
    go_wp2_with (go_at_call 210;refine G.mono ?_;rintro e w2 ⟨rfl,o⟩;have O:Aside (Below wr.heap.size wr w2):=o;clear o)
    go_roundg (n-(k+1))
    case measure=>omega
    case rel=>
     obtain⟨r1,r2⟩:=R.out;refine⟨k+1,by omega,by omega,by go_num,⟨fun j hj hjk=> ?_,r2.trans (O.out.mono r2.size)⟩⟩
     by_cases e:j=k
     ·subst e;rw[X.out.2.2.2 hj];exact hb
     ·exact r1 j hj (by omega)
  ·have hkn:k=n:=by omega
   subst hkn;clear hlt hk hg
   go_wp2
   go_ret
   obtain⟨r1,r2⟩:=R.out;have hl:=H.out.len;have hpos:¬gE xs v<k:=by
    unfold gE;have:xs.findIdx (fun x=>decide (x.1>v))=xs.length:=List.findIdx_eq_length.2 (fun x hx=>by
     obtain⟨j,hj,rfl⟩:=List.getElem_of_mem hx;simpa using r1 j hj (by omega))
    rw[this];omega
   exact⟨by rw[HR.out,if_neg hpos];rfl,r2⟩
set_option maxRecDepth 100000 in
set_option maxHeartbeats 4000000 in
theorem V5{base:Option Addr}{n c:Nat}{xs:List gR}(w:World)(h:BdsAt w base n c xs):
 Calls Tryz.prog 212 #[.slice base n c] w fun e w'=>∃v,e= .returned v/\w'.ownsRow w.heap.size 38 4 v n (ea xs)/\Below w.heap.size w w':=by
 obtain⟨i,hi,hzz⟩:=ay.1 uP;simp only[Prod.mk.injEq]at hzz;obtain⟨hz,hs,hby⟩:=hzz;have H:Aside (BdsAt w base n c xs):=h;have hl:(ea xs).length=n*4:=by rw[Tk,h.len]
 have hn:n<=maxLen:=by have:=h.lim;unfold maxLen;omega
 have hbig:n*48<=140737488355328:=by have:=h.lim;omega
 have h1:∀u,u∈ea xs->u.oneCell'=true:=h.one';have q22:∀(w:World) (a:Option Addr) (n c n' c':Nat),(binOp .eql 25 (.slice a n c) (.slice none n' c')).run Tryz.prog w= .ok (.bool a.isNone) w:=fun w a n c n' c'=>Lib.run_eql_slice_nil w _ _ a n c n' c' Tryz.underlying25
 clear h;cases base with
 |none=>
  obtain⟨rfl,rfl⟩:=H.out.nil rfl;have hx:ea xs=[]:=List.length_eq_zero_iff.1 (by simpa using hl);clear hl hn hbig h1
  go_enter Tryz.func212,Tryz.ntmps212
  go_wp2
  go_ret
  exact⟨_,rfl,by rw[hx];exact World.ownsRow_nil _ _ _ _,Below.refl _ _⟩
 |some ad=>
  go_enter Tryz.func212,Tryz.ntmps212
  go_wp2_with (at_builtin;refine wpList_append_own _ rfl _ _ 25 rfl w.heap.size 38 i _ 4 48 Tryz.underlying25 hi hz hs hby rfl (by decide) _ _ _ rfl (World.ownsRow_made w #[] 0 (Nat.le_refl _) (Nat.zero_le _) (by simp)) ad n c (ea xs) rfl ?qc1 ?qc2 ?qc3 ?qc4 ?qc5 ?qc6 ?_)
  case qc1=>exact hl
  case qc2=>
   intro j u hj;have hjl:=(List.getElem?_eq_some_iff.1 hj).1;obtain⟨hsp,hcell⟩:=H.out.cell ad rfl (by omega);obtain⟨b,off,sp⟩:=ad;simp only at hsp hcell;subst hsp;rw[lG];exact Lib.cell?_alloc_some _ (hcell j u hj)
  case qc3=>exact h1
  case qc4=>rw[Nat.zero_add];exact hn
  case qc5=>rw[Nat.zero_add];exact hbig
  case qc6=>simp
  intro v' w1 hown hgrow hnil
  go_wp2
  go_ret
  refine⟨v',rfl,by simpa using hown,?_⟩;exact((Below.refl _ w).alloc (Nat.le_refl _) _).grown hgrow (by simp) (by intro k hk;simp[Value.ownBlock]at hk;omega)
def P9(W w':World)(B:Nat)(e:Ending)(n i:Nat)(cs vs:List Value):Prop:=
 ∃blk cap arr,e= .returned (.slice (some ⟨blk,0,none⟩) (n+1) cap)/\B<=blk/\w'.heap[blk]?=some (.cells arr 38 (0,0))/\cap*4<=arr.size/\n+1<=cap/\cap<=maxLen/\(∀(j:Nat) (u:Value),(k_ cs vs i 4)[j]?=some u->arr[j]?=some u)/\Below B W w'
set_option maxRecDepth 100000 in
set_option maxHeartbeats 4000000 in
theorem TE{B:Nat}{v:Value}{n vb:Nat}{cs vs:List Value}(W:World)(ho:W.ownsRow B 38 4 v n cs)(hB:B<=W.heap.size)(hbig:(n+1)*48<=140737488355328)
 (hv:W.heap[vb]?=some (.cells vs.toArray 38 (0,0))) (hvl:vs.length=4) (h1v:∀u∈vs,u.oneCell'=true):
 Calls Tryz.prog 211 #[v,.int .i64 n,.slice (some ⟨vb,0,none⟩) 1 1] W fun e w'=>∃v',e= .returned v'/\w'.ownsRow B 38 4 v' (n+1) (cs++vs)/\Below B W w':=by
 obtain⟨i0,hi0,hzz⟩:=ay.1 uP;simp only[Prod.mk.injEq]at hzz;obtain⟨hz,hs,hby⟩:=hzz;have hlt:=ho.lt;have hn:n+1<=maxLen:=by unfold maxLen;omega
 have hvs:∀(j:Nat) (u:Value),vs[j]?=some u->W.cell? (Addr.add ⟨vb,0,none⟩ j)=some u:=fun j u hj=>by
  rw[lG];simp[World.cell?,hv,hj]
 have O:Aside (W.ownsRow B 38 4 v n cs):=ho;have HB:Aside (B<=W.heap.size):=hB;have fin:∀(v':Value) (w1:World),w1.ownsRow B 38 4 v' (n+1) (cs++vs)->W.grownBy w1 v.ownBlock->Below B W w1:=fun v' w1 _ hg=>
  (Below.refl B W).grown hg hB (fun k hk=>(hlt k hk).1)
 clear hlt hv hB;rcases ho.2 with⟨rfl,rfl⟩|⟨g,cap,cur,rfl,q1,q2,q3,q4,q5,q6⟩
 ·clear ho
  go_enter Tryz.func211,Tryz.ntmps211
  go_wp2_with (at_builtin;refine wpList_append_own _ rfl _ _ 25 rfl B 38 i0 _ 4 48 Tryz.underlying25 hi0 hz hs hby rfl (by decide) _ 0 _ rfl O.out ⟨vb,0,none⟩ 1 1 vs rfl hvl hvs h1v hn hbig HB.out ?_)
  intro v' w1 hown hgrow hnil
  go_wp2
  go_ret
  exact⟨v',rfl,hown,fin v' w1 hown hgrow⟩
 ·clear ho q1 q2 q5 q6
  have hc63:cap<=9223372036854775807:=by unfold maxLen at q4;omega
  by_cases hcn:cap=n
  ·subst hcn
   clear q3 q4
   go_enter Tryz.func211,Tryz.ntmps211
   go_wp2_with (at_builtin;refine wpList_append_own _ rfl _ _ 25 rfl B 38 i0 _ 4 48 Tryz.underlying25 hi0 hz hs hby rfl (by decide) _ cap _ rfl O.out ⟨vb,0,none⟩ 1 1 vs rfl hvl hvs h1v hn hbig HB.out ?_)
   intro v' w1 hown hgrow hnil
   go_wp2
   go_ret
   exact⟨v',rfl,hown,fin v' w1 hown hgrow⟩
  ·go_enter Tryz.func211,Tryz.ntmps211
   go_wp2_with (at_builtin;refine wpList_append_own _ rfl _ _ 25 rfl B 38 i0 _ 4 48 Tryz.underlying25 hi0 hz hs hby rfl (by decide) _ n _ rfl O.out ⟨vb,0,none⟩ 1 1 vs rfl hvl hvs h1v hn hbig HB.out ?_)
   intro v' w1 hown hgrow hnil
   go_wp2
   go_ret
   exact⟨v',rfl,hown,fin v' w1 hown hgrow⟩
theorem Xx{B:Nat}{v:Value}{n i vb:Nat}{cs vs:List Value}(W:World)(ho:W.ownsRow B 38 4 v n cs)(hB:B<=W.heap.size)(hi:i<=n)(hbig:(n+1)*48<=140737488355328)
 (hv:W.heap[vb]?=some (.cells vs.toArray 38 (0,0))) (hne:v.ownBlock≠some vb) (hvl:vs.length=4) (h1c:∀u∈cs,u.oneCell'=true) (h1v:∀u∈vs,u.oneCell'=true):
 Calls Tryz.prog 211 #[v,.int .i64 i,.slice (some ⟨vb,0,none⟩) 1 1] W fun e w'=>P9 W w' B e n i cs vs:=by
 have hcl:cs.length=n*4:=ho.1
 by_cases hin:i=n
 ·subst hin
  refine(TE W ho hB hbig hv hvl h1v).mono ?_
  rintro e w' ⟨v',rfl,⟨o1,o2⟩,o3⟩
  rcases o2 with⟨_,h⟩|⟨g,cap,cur,rfl,q1,q2,q3,q4,q5,q6⟩
  ·omega
  ·refine⟨g,cap,cur,rfl,q1,q2,by omega,q3,q4,fun j u hu=> ?_,o3⟩
   have e:k_ cs vs i 4=cs++vs:=by
    unfold k_;rw[List.take_of_length_le (by omega),List.drop_of_length_le (by omega),List.append_nil]
   rw[e,<-q6,List.getElem?_take]at hu;split at hu
   ·simpa using hu
   ·cases hu
 ·rcases ho.2 with⟨rfl,rfl⟩|⟨g,cap,cur,rfl,q1,q2,q3,q4,q5,q6⟩
  ·omega
  ·have hlt:i<n:=by omega
   have hvg:vb≠g:=fun e=>hne (by rw[e];rfl)
   by_cases hroom:n+1<=cap
   ·refine(OP g n cap i vb cur cs vs W hlt hroom q4 hvg q2 q5 q6 hv hvl h1c h1v).mono ?_
    rintro e w' ⟨rfl,rfl⟩
    obtain⟨c1,k1,k2,k3,k4⟩:=nC g 38 (0,0) (cs.drop (i*4)) ((i+1)*4) W.drew cur q2 (by rw[List.length_drop];omega);obtain⟨c2,m1,m2,m3,m4⟩:=nC g 38 (0,0) vs (i*4) _ c1 k1 (by omega);refine⟨g,cap,c2,rfl,q1,m1,by omega,hroom,q4,fun j u hu=> ?_,((Below.refl B W).drew.trans (k4 B q1)).trans (m4 B q1)⟩;rw[LX hcl hvl (by omega)]at hu;rw[m3,hvl]
    by_cases a1:j<i*4
    ·rw[if_pos a1]at hu
     rw[if_neg (by omega),k3,if_neg (by omega)];rw[<-q6,List.getElem?_take]at hu;split at hu
     ·simpa using hu
     ·cases hu
    ·rw[if_neg a1]at hu
     by_cases a2:j<(i+1)*4
     ·rw[if_pos a2]at hu
      rw[if_pos (by omega)];exact hu
     ·rw[if_neg a2]at hu
      have hjl:=(List.getElem?_eq_some_iff.1 hu).1;rw[if_neg (by omega),k3,List.length_drop,if_pos (by omega),List.getElem?_drop,show i*4+(j-(i+1)*4)=j-4 by omega];exact hu
   ·refine(OI g n cap i vb cur cs vs W hlt q3 (by omega) q4 hbig q2 q5 q6 hv hvl h1c h1v).mono ?_
    rintro e w' ⟨G,ROW,g1,g2,g3,g4,rfl,rfl⟩
    have hN:((W.alloc (.cells ROW 38)).drew).heap[W.heap.size]?=some (.cells ROW 38 (0,0)):=heap_alloc_new W _;obtain⟨c1,k1,k2,k3,k4⟩:=nC W.heap.size 38 (0,0) vs (i*4) ((W.alloc (.cells ROW 38)).drew) ROW hN (by omega);obtain⟨c2,m1,m2,m3,m4⟩:=nC W.heap.size 38 (0,0) (cs.drop (i*4)) ((i+1)*4) (((W.alloc (.cells ROW 38)).drew.setCells W.heap.size (i*4) vs).drew) c1 k1 (by rw[List.length_drop];omega);refine⟨W.heap.size,G,c2,rfl,hB,m1,by omega,g1,g2,fun j u hu=> ?_,(((((Below.refl B W).alloc hB _).drew).trans (k4 B hB)).drew).trans (m4 B hB)⟩;rw[LX hcl hvl (by omega)]at hu;rw[m3,List.length_drop]
    by_cases a1:j<i*4
    ·rw[if_pos a1]at hu
     rw[if_neg (by omega),k3,if_neg (by omega),g4 j a1];exact hu
    ·rw[if_neg a1]at hu
     by_cases a2:j<(i+1)*4
     ·rw[if_pos a2]at hu
      rw[if_neg (by omega),k3,if_pos (by omega)];exact hu
     ·rw[if_neg a2]at hu
      have hjl:=(List.getElem?_eq_some_iff.1 hu).1;rw[if_pos (by omega),List.getElem?_drop,show i*4+(j-(i+1)*4)=j-4 by omega];exact hu
theorem BdsAt.below{w W:World}{base:Option Addr}{n c:Nat}{xs:List gR}(h:BdsAt w base n c xs)(hb:Below w.heap.size w W):BdsAt W base n c xs:=
 {len:=h.len,cap:=h.cap,capm:=h.capm,lim:=h.lim,nil:=h.nil,one:=h.one
  cell:=fun ad ha hn=>⟨(h.cell ad ha hn).1,fun j u hj=>by
   have h1:=(h.cell ad ha hn).2 j u hj;rw[hb.cell (nU h1)];exact h1⟩}
theorem Um{xs:List gR}{v:Int}:gE xs v<=xs.length:=List.findIdx_le_length
theorem Jf{w:World}{B B':Nat}{e:TypeId}{z:Nat}{v:Value}{n:Nat}{xs:List Value}(h:w.ownsRow B e z v n xs)(hb:B'<=B):w.ownsRow B' e z v n xs:=by
 refine⟨h.1,?_⟩;rcases h.2 with h|⟨g,cap,cur,h1,h2,h3⟩
 ·exact .inl h
 ·exact .inr ⟨g,cap,cur,h1,by omega,h3⟩
theorem IW{w3 w4:World}{u:Value}{e:TypeId}{n:Nat}{cs:List Value}(o:w4.ownsRow w3.drew.heap.size e 4 u n cs)(b:Below w3.drew.heap.size w3.drew w4):Below w3.heap.size w3 w4/\w4.ownsRow w3.heap.size e 4 u n cs:=
 ⟨(Below.refl _ w3).drew.trans b,o⟩
theorem IS{w3 w4:World}{u:Value}{e:TypeId}{n:Nat}{cs:List Value}{ob:Obj}(o:w4.ownsRow (w3.drew.alloc ob).heap.size e 4 u n cs)(b:Below (w3.drew.alloc ob).heap.size (w3.drew.alloc ob) w4):Below w3.heap.size w3 w4/\w4.ownsRow w3.heap.size e 4 u n cs:=
 have hz:w3.heap.size<=(w3.drew.alloc ob).heap.size:=by have:=((Below.refl w3.heap.size w3).drew.alloc (Nat.le_refl _) ob).size;exact this
 ⟨((Below.refl _ w3).drew.alloc (Nat.le_refl _) ob).trans (b.mono hz),Jf o hz⟩
theorem Kj{w3 w4:World}{u:Value}{e:TypeId}{n:Nat}{cs:List Value}{arr:Array Value}{t:TypeId}(o:w4.ownsRow (w3.drew.alloc (.cells arr t)).heap.size e 4 u n cs)(b:Below (w3.drew.alloc (.cells arr t)).heap.size (w3.drew.alloc (.cells arr t)) w4):
 w4.heap[w3.heap.size]?=some (.cells arr t (0,0))/\u.ownBlock≠some w3.heap.size:=by
 have hz:(w3.drew.alloc (.cells arr t)).heap.size=w3.heap.size+1:=by simp
 refine⟨?_,fun h=> ?_⟩
 ·rw[b.block _ (by omega)]
  exact heap_alloc_new w3.drew _
 ·have:=(o.lt _ h).1
  omega
def DR(w3 W:World)(e:TypeId)(u:Value)(n:Nat)(cs:List Value)(vb:Nat)(vs:Array Value):Prop:=
 W.ownsRow w3.heap.size e 4 u n cs/\W.heap[vb]?=some (.cells vs e (0,0))/\u.ownBlock≠some vb/\Below w3.heap.size w3 W
theorem Jv{w3 w4:World}{u:Value}{e:TypeId}{n:Nat}{cs:List Value}{vs:Array Value}(h:Below w3.heap.size w3 w4/\w4.ownsRow w3.heap.size e 4 u n cs):DR w3 (w4.alloc (.cells vs e)) e u n cs w4.heap.size vs:=
 ⟨h.2.alloc _,heap_alloc_new w4 _,fun he=>by have:=(h.2.lt _ he).2;omega,h.1.alloc h.1.size _⟩
theorem G_{w3 w4:World}{u:Value}{e:TypeId}{n:Nat}{cs:List Value}{vs:Array Value}(h:Below w3.heap.size w3 w4/\w4.ownsRow w3.heap.size e 4 u n cs)(hv:w4.heap[w3.heap.size]?=some (.cells vs e (0,0))/\u.ownBlock≠some w3.heap.size):DR w3 w4 e u n cs w3.heap.size vs:=
 ⟨h.2,hv.1,hv.2,h.1⟩
set_option maxRecDepth 100000 in
set_option maxHeartbeats 8000000 in
theorem Ox:HK Tryz.prog 180:=by
 intro base n c xs v t1 t2 t3 w h h1 h2 h3;have H:Aside (BdsAt w base n c xs):=h;have hle:gE xs v<=n:=by have:=h.len;have:=Um (xs:=xs) (v:=v);omega
 obtain⟨k,hk⟩:∃k,k=gE xs v:=⟨_,rfl⟩;obtain⟨s,hs⟩:∃s,s=w.heap.size:=⟨_,rfl⟩;rw[<-hk]at hle⊢
 have X:Aside (k=gE xs v):=hk;have hlim:=h.lim;have IC:∀(r:Int),r=(if k<n then(k:Int)else-1)->∀(W:World) (pb:Nat),Below w.heap.size w W->W.cell? ⟨pb,0,none⟩=some (.int .i64 v)->
  Calls Tryz.prog 121 #[.slice base n c,.func (.func 210) #[] #[.pointer (some ⟨pb,0,none⟩)]] W fun e w'=>e= .returned (.int .i64 r)/\Below W.heap.size W w':=fun r hr W pb hb hp=>
  ZN (h.below hb) v pb hp r (by rw[hr,hk])
 have CC:∀(W:World),Below w.heap.size w W->Calls Tryz.prog 212 #[.slice base n c] W fun e w'=>∃v,e= .returned v/\w'.ownsRow W.heap.size 38 4 v n (ea xs)/\Below W.heap.size W w':=fun W hb=>V5 W (h.below hb)
 have II:∀(w3 W:World) (u:Value) (vb:Nat),Below w.heap.size w w3->DR w3 W 38 u n (ea xs) vb #[.int .i64 v,t1,t2,t3]->
  Calls Tryz.prog 211 #[u,.int .i64 k,.slice (some ⟨vb,0,none⟩) 1 1] W fun e w'=>∃blk cap arr,e= .returned (.slice (some ⟨blk,0,none⟩) (n+1) cap)/\w.heap.size<=blk/\w'.heap[blk]?=some (.cells arr 38 (0,0))/\cap*4<=arr.size/\n+1<=cap/\cap<=maxLen/\
   (∀(j:Nat) (u:Value),(k_ (ea xs) [.int .i64 v,t1,t2,t3] k 4)[j]?=some u->arr[j]?=some u)/\Below w.heap.size w w':=fun w3 W u vb hb ⟨ho,hv,hne,hW⟩=>
  (Xx W (Jf ho hb.size) (Nat.le_trans hb.size hW.size) hle hlim hv hne rfl h.one' (fun u hu=>by
   simp only[List.mem_cons,List.not_mem_nil,or_false]at hu;rcases hu with rfl|rfl|rfl|rfl
   ·rfl
   ·exact h1
   ·exact h2
   ·exact h3)).mono (by
   rintro e w' ⟨blk,cap,arr,q1,q2,q3,q4,q5,q6,q7,q8⟩
   exact⟨blk,cap,arr,q1,q2,q3,q4,q5,q6,q7,(hb.trans (hW.mono hb.size)).trans q8⟩)
 have hn63:n<=9223372036854775807:=by omega
 have mixed:Tryz.prog.follows .mixedOrders=true:=by kernel_rfl
 clear h hk
 by_cases hkn:k<n
 ·have IR:=IC k (by rw[if_pos hkn])
  clear IC hkn hle hlim
  go_enter Tryz.func180,Tryz.ntmps180
  go_wp2_with (
   go_at_call 121
   refine(IR _ _ ?_ ?_).mono ?_;exact((Below.refl _ w).alloc (Nat.le_refl _) _).alloc (by simp) _;rw[World.cell?_alloc_past _ _ _ (by simp)];rw[World.cell?_alloc_at (w:=w) _ _ w.heap.size 0 rfl];rfl
   rintro e w3 ⟨rfl,b3⟩
   have B3:Aside (Below w.heap.size w w3/\w.heap.size+2<=w3.heap.size):=⟨(((Below.refl _ w).alloc (Nat.le_refl _) _).alloc (by simp) _).trans (b3.mono (by simp;omega)),by have:=b3.size;simp at this;omega⟩;have d0:w3.cell? ⟨w.heap.size,0,none⟩=some (.int .i64 v):=(b3.cell (by simp;omega)).trans (by rw[World.cell?_alloc_past _ _ _ (by simp)];rw[World.cell?_alloc_at (w:=w) _ _ w.heap.size 0 rfl];rfl);have dt:∀(j:Nat) (u:Value),#[t1,t2,t3][j]?=some u->w3.cell? ⟨w.heap.size+1,j,none⟩=some u:=fun j u hu=>(b3.cell (by simp)).trans (by rw[World.cell?_alloc_at (w:=w.alloc _) _ _ (w.heap.size+1) j (by simp)];exact hu)
   have d1:=dt 0 t1 rfl;have d2:=dt 1 t2 rfl;have d3:=dt 2 t3 rfl;clear b3 dt)
  have S3:=B3.out.2;have CC3:∀(W:World),Below w3.heap.size w3 W->Calls Tryz.prog 212 #[.slice base n c] W fun e w'=>∃v,e= .returned v/\w'.ownsRow W.heap.size 38 4 v n (ea xs)/\Below W.heap.size W w':=fun W hb=>CC W (B3.out.1.trans (hb.mono (by omega)))
  have II3:=fun W u vb=>II w3 W u vb B3.out.1
  clear CC II
  go_region_with_o (first
   |(go_at_call 212
     refine(CC3 _ ?_).mono ?_
     first|exact(Below.refl _ w3).drew|exact(Below.refl _ w3).drew.alloc (Nat.le_refl _) _
     rintro e w4 ⟨u,rfl,o4,b4⟩
     have e0:w4.cell? ⟨w.heap.size,0,none⟩=some (.int .i64 v):=(b4.cell (by first|exact(show w.heap.size<w3.heap.size by omega)|(simp;omega))).trans (by first|exact d0|exact Lib.cell?_alloc_some _ d0);have e1:w4.cell? ⟨w.heap.size+1,0,none⟩=some t1:=(b4.cell (by first|exact(show w.heap.size+1<w3.heap.size by omega)|(simp;omega))).trans (by first|exact d1|exact Lib.cell?_alloc_some _ d1);have e2:w4.cell? ⟨w.heap.size+1,1,none⟩=some t2:=(b4.cell (by first|exact(show w.heap.size+1<w3.heap.size by omega)|(simp;omega))).trans (by first|exact d2|exact Lib.cell?_alloc_some _ d2);have e3:w4.cell? ⟨w.heap.size+1,2,none⟩=some t3:=(b4.cell (by first|exact(show w.heap.size+1<w3.heap.size by omega)|(simp;omega))).trans (by first|exact d3|exact Lib.cell?_alloc_some _ d3);have U4:Aside (Below w3.heap.size w3 w4/\w4.ownsRow w3.heap.size 38 4 u n (ea xs)):=by first|exact IW o4 b4|exact IS o4 b4
     first
      |have V4:Aside (w4.heap[w3.heap.size]?=some (.cells #[.int .i64 v,t1,t2,t3] 38 (0,0))/\u.ownBlock≠some w3.heap.size):=Kj o4 b4
      |have V4:Aside True:=trivial
     clear o4 b4)
   |(go_at_call 211
     refine(II3 _ _ _ ?_).mono ?_
     first|exact Jv U4.out|exact G_ U4.out V4.out
     rintro e w5 ⟨blk,cap,arr,rfl,i1⟩
     have L5:Aside (pH w w5 (.returned (.slice (some ⟨blk,0,none⟩) (n+1) cap)) 4 (n+1) (k_ (ea xs) [.int .i64 v,t1,t2,t3] k 4)):=⟨blk,cap,arr,_,rfl,i1.1,i1.2.1,i1.2.2.1,i1.2.2.2.1,i1.2.2.2.2.1,i1.2.2.2.2.2.1,i1.2.2.2.2.2.2⟩;clear i1))
  all_goals (go_wp2;go_ret;exact L5.out)
 ·have hkn2:k=n:=by omega
  have IR:=IC (-1) (by rw[if_neg hkn]);rw[hkn2]at II⊢
  clear IC hkn hle hlim
  go_enter Tryz.func180,Tryz.ntmps180
  go_wp2_with (
   go_at_call 121
   refine(IR _ _ ?_ ?_).mono ?_;exact((Below.refl _ w).alloc (Nat.le_refl _) _).alloc (by simp) _;rw[World.cell?_alloc_past _ _ _ (by simp)];rw[World.cell?_alloc_at (w:=w) _ _ w.heap.size 0 rfl];rfl
   rintro e w3 ⟨rfl,b3⟩
   have B3:Aside (Below w.heap.size w w3/\w.heap.size+2<=w3.heap.size):=⟨(((Below.refl _ w).alloc (Nat.le_refl _) _).alloc (by simp) _).trans (b3.mono (by simp;omega)),by have:=b3.size;simp at this;omega⟩;have d0:w3.cell? ⟨w.heap.size,0,none⟩=some (.int .i64 v):=(b3.cell (by simp;omega)).trans (by rw[World.cell?_alloc_past _ _ _ (by simp)];rw[World.cell?_alloc_at (w:=w) _ _ w.heap.size 0 rfl];rfl);have dt:∀(j:Nat) (u:Value),#[t1,t2,t3][j]?=some u->w3.cell? ⟨w.heap.size+1,j,none⟩=some u:=fun j u hu=>(b3.cell (by simp)).trans (by rw[World.cell?_alloc_at (w:=w.alloc _) _ _ (w.heap.size+1) j (by simp)];exact hu)
   have d1:=dt 0 t1 rfl;have d2:=dt 1 t2 rfl;have d3:=dt 2 t3 rfl;clear b3 dt)
  have S3:=B3.out.2;have CC3:∀(W:World),Below w3.heap.size w3 W->Calls Tryz.prog 212 #[.slice base n c] W fun e w'=>∃v,e= .returned v/\w'.ownsRow W.heap.size 38 4 v n (ea xs)/\Below W.heap.size W w':=fun W hb=>CC W (B3.out.1.trans (hb.mono (by omega)))
  have II3:=fun W u vb=>II w3 W u vb B3.out.1
  clear CC II
  go_region_with_o (first
   |(go_at_call 212
     refine(CC3 _ ?_).mono ?_
     first|exact(Below.refl _ w3).drew|exact(Below.refl _ w3).drew.alloc (Nat.le_refl _) _
     rintro e w4 ⟨u,rfl,o4,b4⟩
     have e0:w4.cell? ⟨w.heap.size,0,none⟩=some (.int .i64 v):=(b4.cell (by first|exact(show w.heap.size<w3.heap.size by omega)|(simp;omega))).trans (by first|exact d0|exact Lib.cell?_alloc_some _ d0);have e1:w4.cell? ⟨w.heap.size+1,0,none⟩=some t1:=(b4.cell (by first|exact(show w.heap.size+1<w3.heap.size by omega)|(simp;omega))).trans (by first|exact d1|exact Lib.cell?_alloc_some _ d1);have e2:w4.cell? ⟨w.heap.size+1,1,none⟩=some t2:=(b4.cell (by first|exact(show w.heap.size+1<w3.heap.size by omega)|(simp;omega))).trans (by first|exact d2|exact Lib.cell?_alloc_some _ d2);have e3:w4.cell? ⟨w.heap.size+1,2,none⟩=some t3:=(b4.cell (by first|exact(show w.heap.size+1<w3.heap.size by omega)|(simp;omega))).trans (by first|exact d3|exact Lib.cell?_alloc_some _ d3);have U4:Aside (Below w3.heap.size w3 w4/\w4.ownsRow w3.heap.size 38 4 u n (ea xs)):=by first|exact IW o4 b4|exact IS o4 b4
     first
      |have V4:Aside (w4.heap[w3.heap.size]?=some (.cells #[.int .i64 v,t1,t2,t3] 38 (0,0))/\u.ownBlock≠some w3.heap.size):=Kj o4 b4
      |have V4:Aside True:=trivial
     clear o4 b4)
   |(go_at_call 211
     refine(II3 _ _ _ ?_).mono ?_
     first|exact Jv U4.out|exact G_ U4.out V4.out
     rintro e w5 ⟨blk,cap,arr,rfl,i1⟩
     have L5:Aside (pH w w5 (.returned (.slice (some ⟨blk,0,none⟩) (n+1) cap)) 4 (n+1) (k_ (ea xs) [.int .i64 v,t1,t2,t3] n 4)):=⟨blk,cap,arr,_,rfl,i1.1,i1.2.1,i1.2.2.1,i1.2.2.2.1,i1.2.2.2.2.1,i1.2.2.2.2.2.1,i1.2.2.2.2.2.2⟩;clear i1))
  all_goals (go_wp2;go_ret;exact L5.out)
end Go.Proofs.YtpcoohnjllclnaaGreat.VS

/- slices.Concat at []int, walked once: it returns a new row, the rows one behind the other. Condition: none is empty, and they fit into memory. -/
import Derived.Test.YtpcoohnjllclnaaOk
import Derived.Below
import Derived.WalkKit
import Derived.OwnWalk
import Derived.Lib.Walk
import Derived.Lib.SliceRun
import Derived.Lib.AppendZeros
import Derived.Deep.LoopGhost
import Derived.Laws.AppendOwn
import Derived.KernelRfl
set_option linter.unusedSimpArgs false
set_option linter.unusedVariables false
namespace Go.Proofs.Ytpcoohnjllclnaa.VS
open Go.RowKit Go.Lib Go.Proofs
theorem qDu:(Try.prog.info? 3).map (fun i=>(i.zero,i.size,i.bytes))=some (some (Value.int IntKind.i64 0),1,8):=by kernel_rfl
set_option maxRecDepth 100000 in
set_option maxHeartbeats 2000000 in
theorem qvq(n:Nat)(w:World)(hn:0<n)(hb:n*8<=140737488355328):
 Calls Try.prog 40 #[.slice none 0 0,.int .i64 n] w fun e w'=>∃v,e= .returned v/\w'.ownsRow w.heap.size 3 1 v 0 []/\v.ownBlock=some w.heap.size/\Below w.heap.size w w':=by
 obtain⟨i,hi,hzz⟩:=Option.map_eq_some_iff.1 qDu;simp only[Prod.mk.injEq]at hzz;obtain⟨hz,hs,hby⟩:=hzz;have h1:¬((n:Int)<0):=by omega
 have h3:wrap64 ((n:Int)-0)=(n:Int):=by unfold wrap64;omega
 have h4:(n:Int)>0:=by omega
 have hrz:∀ty,(Builtin.append_ #[24,3] ty #[.slice none 0 0,.int .i64 (n:Int)]).run Try.prog w=
  .ok (.slice (some ⟨w.heap.size,0,none⟩) n (grownCap w n 0 3)) (w.drew.alloc (.cells (Builtin.zeroCells (Value.int IntKind.i64 0).cells n++Builtin.zeroCells (Value.int IntKind.i64 0).cells (grownCap w n 0 3-n)) 3)):=fun ty=>
  run_append_nil_zeros w 24 3 ty 3 i _ .i64 .i64 Try.underlying24 Try.underlying3 hi hz n hn (by omega) (by omega) (by rw[hby];omega)
 have hG:n<=grownCap w n 0 3:=grownCap_ge w _ _ _;have hGm:grownCap w n 0 3<=maxLen:=grownCap_le_maxLen w n 0 3 (by unfold maxLen;omega);generalize grownCap w n 0 3=G at hrz hG hGm;have hG63:G<=9223372036854775807:=by unfold maxLen at hGm;omega
 go_enter Try.func40,Try.ntmps40
 go_wp2_with (at_builtin;refine Lib.wpList_append_run _ rfl _ _ _ _ rfl _ _ rfl rfl _ _ (hrz _) ?_)
 all_goals (go_ret;exact⟨_,rfl,World.ownsRow_made _ _ _ (Nat.le_refl _) hGm (by simp[size_zeroCells,Value.cells];omega),rfl,(Below.refl _ w).drew.alloc (Nat.le_refl _) _⟩)
theorem qre{w:World}{p:Addr}{v:Value}(h:w.cell? p=some v):p.block<w.heap.size:=by
 unfold World.cell? at h;split at h
 ·rename_i hb;exact(Array.getElem?_eq_some_iff.1 hb).1
 ·simp at h
theorem addN(b o j:Nat):(⟨b,o,none⟩:Addr).add j=⟨b,o+j,none⟩:=by unfold Addr.add;split<;>simp_all
theorem qfX(rows:List (List Int))(k:Nat)(xs:List Int)(h:rows[k]?=some xs):(rows.take (k+1)).flatten=(rows.take k).flatten++xs:=by
 rw[List.take_add_one,h];simp
theorem qim(rows:List (List Int))(k:Nat):(rows.take k).flatten.length<=rows.flatten.length:=by
 have:=congrArg (fun l=>l.flatten.length) (List.take_append_drop k rows);simp only[List.flatten_append,List.length_append]at this;omega
set_option maxRecDepth 100000 in
set_option maxHeartbeats 4000000 in
theorem qpQ:qwB Try.prog (fid 225):=by
 intro ad c rows w hrows hne hc hcm hnn hbig;show Calls Try.prog 26 _ _ _;obtain⟨i,hi,hzz⟩:=Option.map_eq_some_iff.1 qDu;simp only[Prod.mk.injEq]at hzz;obtain⟨hz,hs,hby⟩:=hzz;obtain⟨blk,off,spot⟩:=ad;obtain⟨hspot,hrow⟩:=hrows;simp only at hspot hrow;subst hspot;have hlen:0<rows.length:=List.length_pos_iff.2 hne;have hc63:rows.length<=9223372036854775807:=by unfold maxLen at hcm;omega
 obtain⟨T,hT⟩:∃T:Nat->Nat,∀k,T k=(rows.take k).flatten.length:=⟨_,fun _=>rfl⟩;have HT:Aside (∀k,T k=(rows.take k).flatten.length):=hT;have hT0:T 0=0:=by rw[hT];rfl
 have HS:Aside (∀k (h:k<rows.length),T (k+1)=T k+rows[k].length):=fun k h=>by rw[hT,hT,qfX rows k rows[k] (by simp[h]),List.length_append]
 have HB:Aside (∀k,T k*8<=140737488355328):=fun k=>by have:=qim rows k;rw[hT];omega
 have HL:Aside (T rows.length=rows.flatten.length):=by show _=_;rw[hT,List.take_length]
 have A:Aside (RowsAt w ⟨blk,off,none⟩ rows):=⟨rfl,hrow⟩;have NN:Aside (∀xs,xs∈rows->xs≠[]):=hnn;have HP:Aside (0<T rows.length):=by
  have h0:0<rows[0].length:=List.length_pos_iff.2 (hnn _ (List.getElem_mem hlen));have:=HS.out 0 hlen;have hmono:T 1<=T rows.length:=by
   rw[HL.out,hT];exact qim rows 1
  simp only[Nat.zero_add]at this;show 0<_;omega
 have AI:Aside (Try.prog.info? 3=some i/\i.zero=some (Value.int IntKind.i64 0)/\i.size=1/\i.bytes=8):=⟨hi,hz,hs,hby⟩;clear hrow hT hnn hi hz hs hby hbig hne
 go_enter Try.func26,Try.ntmps26
 go_wp2
 go_loopg [3,11] rows.length (fun g s3 s11 wr=>∃k:Nat,k<=rows.length/\rows.length-k<=g/\s3= .int .i64 (T k)/\s11= .int .i64 k/\wr=w)
 case atStart=>exact⟨0,Nat.zero_le _,by omega,by rw[hT0];rfl,rfl,rfl⟩
 case round=>
  obtain⟨k,hk,hg,rfl,rfl,rfl⟩:=hrel
  by_cases hlt:k<rows.length
  ·obtain⟨a',c',g1,g2,g3⟩:=A.out.row k rows[k] (by simp[hlt])
   clear g2 g3;have hx:wrap64 ((T k:Int)+(rows[k].length:Int))=(T (k+1):Int):=by have:=HS.out k hlt;have:=HB.out (k+1);unfold wrap64;omega
   have hx2:¬((T (k+1):Int)<0):=by omega
   clear hT0;generalize rows[k].length=m at*
   generalize hT1:T (k+1)=T1 at hx hx2;have L1:Aside (T (k+1)=T1):=hT1;clear hT1;generalize T k=T0 at*
   go_wp2
   go_roundg (rows.length-(k+1))
   case measure=>omega
   case rel=>exact⟨k+1,by omega,by omega,by rw[L1.out],by go_num,rfl⟩
  ·have hkn:k=rows.length:=by omega
   subst hkn;clear hT0 hlt hk hg
   rename World=>w0
   have G:=qvq (T rows.length) w0 HP.out (HB.out _);generalize T rows.length=N at G⊢
   go_wp2_with (go_at_call 40;refine G.mono ?_;rintro e w2 ⟨v,rfl,o1,o2,o3⟩;have O:Aside (w2.ownsRow w0.heap.size 3 1 v 0 []/\Below w0.heap.size w0 w2):=⟨o1,o3⟩;clear o1 o2 o3)
   clear G
   go_loopg [6,27] rows.length (fun g s6 s27 wx=>∃k:Nat,k<=rows.length/\rows.length-k<=g/\s27= .int .i64 k/\Aside (wx.ownsRow w0.heap.size 3 1 s6 (T k) ((rows.take k).flatten.map (Value.int .i64))/\Below w0.heap.size w0 wx))
   case atStart=>exact⟨0,Nat.zero_le _,by omega,rfl,by rw[HT.out];exact O⟩
   case round=>
    obtain⟨k,hk,hg,rfl,R⟩:=hrel
    by_cases hlt:k<rows.length
    ·have key:∃(ab ao c':Nat) (v':Value) (w':World),wr.cell? ⟨blk,off+k,none⟩=some (.slice (some ⟨ab,ao,none⟩) rows[k].length c')/\(Builtin.append_ #[24,24] 24 #[u6,.slice (some ⟨ab,ao,none⟩) rows[k].length c']).run Try.prog wr= .ok v' w'/\
      Aside (w'.ownsRow w0.heap.size 3 1 v' (T (k+1)) ((rows.take (k+1)).flatten.map (Value.int .i64))/\Below w0.heap.size w0 w'):=by
      obtain⟨⟨ab,ao,asp⟩,c',g1,g2,g3⟩:=A.out.row k rows[k] (by simp[hlt]);simp only at g1 g2 g3;subst g2;obtain⟨R1,R2⟩:=R.out;obtain⟨hi,hz,hs,hby⟩:=AI.out;have hb8:=HB.out (k+1);have hTS:=HS.out k hlt;obtain⟨v',w',e1,e2,e3,_⟩:=run_append_own (P:=Try.prog) wr w0.heap.size 24 24 3 i _ 1 8 Try.underlying24 hi hz hs hby rfl (by omega) u6 _ _ R1 ⟨ab,ao,none⟩ rows[k].length c' (rows[k].map (Value.int .i64)) (by simp)
       (fun j u hj=>by
        simp only[List.getElem?_map,Option.map_eq_some_iff]at hj;obtain⟨x,hx,rfl⟩:=hj;have h1:=g3 j x hx;rw[addN,R2.cell (qre h1)];exact h1)
       (fun u hu=>by obtain⟨x,_,rfl⟩:=List.mem_map.1 hu;rfl) (by unfold maxLen;omega) (by omega) R2.size
      refine⟨ab,ao,c',v',w',by rw[R2.cell (qre g1)];exact g1,e1,?_,R2.grown e3 R2.size (fun q hq=>(R1.lt q hq).1)⟩;rw[hTS,qfX rows k rows[k] (by simp[hlt]),List.map_append];exact e2
     obtain⟨ab,ao,c',v',w',g1,g4,X⟩:=key;clear R;generalize rows[k].length=m at g1 g4
     go_wp2_with (at_builtin;refine Lib.wpList_append_run _ rfl _ _ _ _ rfl _ _ rfl rfl _ _ g4 ?_)
     go_roundg (rows.length-(k+1))
     case measure=>omega
     case rel=>exact⟨k+1,by omega,by omega,by go_num,X⟩
    ·have hkn:k=rows.length:=by omega
     subst hkn;clear hlt hk hg
     go_wp2
     go_ret
     obtain⟨⟨_,r2⟩,r3⟩:=R.out;have hTL:=HL.out;have hTP:=HP.out;rcases r2 with⟨_,h0⟩|⟨gb,cap,cur,rfl,q1,q2,q3,q4,q5,q6⟩
     ·omega
     ·refine⟨gb,cap,cur,3,by simp[hTL],q1,q2,by omega,by omega,q4,fun j x hx=> ?_,r3⟩
      have hj:=(List.getElem?_eq_some_iff.1 hx).1;have h9:=congrArg (·[j]?) q6;simp only[Nat.mul_one,List.getElem?_take,List.take_length,List.getElem?_map,hx,Option.map_some,Array.getElem?_toList]at h9;rw[if_pos (by omega)]at h9;exact h9
end Go.Proofs.Ytpcoohnjllclnaa.VS

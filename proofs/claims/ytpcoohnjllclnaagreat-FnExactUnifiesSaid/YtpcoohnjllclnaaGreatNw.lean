/- Functions that make a new row out of cells that others hold, each walked once. -/
import Derived.Test.YtpcoohnjllclnaaGreatOk
import Derived.Below
import Derived.WalkKit
import Derived.OwnWalk
import Derived.Lib.Walk
import Derived.Lib.SliceRun
import Derived.Lib.AppendZeros
import Derived.Lib.AppendZerosOnto
import Derived.Lib.Overlaps
import Derived.Deep.LoopGhost
import Derived.Deep.RegionLaw
import Derived.Laws.AppendOwn
import Derived.Laws.AppendOwnNone
import Derived.Laws.NewBlocks
import Derived.Laws.MakeOwn
import Derived.Deep.WholeRow
import Derived.Shelf.RegionOpenPlain
import Derived.Shelf.Spec.SlicesInsertGrow
import Derived.Shelf.Spec.SlicesInsert
import Derived.KernelRfl
import Derived.Test.YtpcoohnjllclnaaGreatShelf
set_option linter.unusedSimpArgs false
set_option linter.unusedVariables false
namespace Go.Proofs.YtpcoohnjllclnaaGreat.VS
open Go.RowKit Go.Lib Go.Proofs
theorem LN(rows:List (Nat×List Value))(k:Nat)(r:Nat×List Value)(h:rows[k]?=some r):cF (rows.take (k+1))=cF (rows.take k)+r.1:=by
 unfold cF;rw[List.take_add_one,h];simp
theorem N0(rows:List (Nat×List Value))(k:Nat)(r:Nat×List Value)(h:rows[k]?=some r):jD (rows.take (k+1))=jD (rows.take k)++r.2:=by
 unfold jD;rw[List.take_add_one,h];simp
theorem Kg(rows:List (Nat×List Value))(k:Nat):cF (rows.take k)<=cF rows:=by
 have:=congrArg (fun l=>cF l) (List.take_append_drop k rows);unfold cF at*
 simp only[List.map_append,List.sum_append]at this;omega
theorem uD{w:World}{p:Addr}{v:Value}(h:w.cell? p=some v):p.block<w.heap.size:=by
 unfold World.cell? at h;split at h
 ·rename_i hb;exact(Array.getElem?_eq_some_iff.1 hb).1
 ·simp at h
theorem B5(b o j:Nat):(⟨b,o,none⟩:Addr).add j=⟨b,o+j,none⟩:=by unfold Addr.add;split<;>simp_all
theorem Iv:∀{rows:List (Nat×List Value)},cF rows=0->∀r,r∈rows->r.1=0
 | [],_,r,h=>by simp at h
 |a::rows,h0,r,h=>by
  simp only[cF,List.map_cons,List.sum_cons]at h0;rcases List.mem_cons.1 h with rfl|h
  ·omega
  ·exact Iv (show cF rows=0 by unfold cF;omega) r h
theorem FY:(Tryz.prog.info? 28).map (fun i=>(i.zero,i.size,i.bytes))=some (some (Value.agg #[.int .i64 0,.int .i64 0,.slice none 0 0]),3,40):=by kernel_rfl
set_option maxRecDepth 100000 in
set_option maxHeartbeats 2000000 in
theorem QA(n:Nat)(w:World)(hn:0<n)(hb:n*40<=140737488355328):
 Calls Tryz.prog 242 #[.slice none 0 0,.int .i64 n] w fun e w'=>∃v,e= .returned v/\w'.ownsRow w.heap.size 28 3 v 0 []/\v.ownBlock=some w.heap.size/\Below w.heap.size w w':=by
 obtain⟨i,hi,hzz⟩:=aN.1 FY;simp only[Prod.mk.injEq]at hzz;obtain⟨hz,hs,hby⟩:=hzz;have h1:¬((n:Int)<0):=by omega
 have h3:wrap64 ((n:Int)-0)=(n:Int):=by unfold wrap64;omega
 have h4:(n:Int)>0:=by omega
 have hrz:∀ty,(Builtin.append_ #[26,3] ty #[.slice none 0 0,.int .i64 (n:Int)]).run Tryz.prog w=
  .ok (.slice (some ⟨w.heap.size,0,none⟩) n (grownCap w n 0 28)) (w.drew.alloc (.cells (Builtin.zeroCells (Value.agg #[.int .i64 0,.int .i64 0,.slice none 0 0]).cells n++Builtin.zeroCells (Value.agg #[.int .i64 0,.int .i64 0,.slice none 0 0]).cells (grownCap w n 0 28-n)) 28)):=fun ty=>
  run_append_nil_zeros w 26 3 ty 28 i _ .i64 .i64 Tryz.underlying26 Tryz.underlying3 hi hz n hn (by omega) (by omega) (by rw[hby];omega)
 have hG:n<=grownCap w n 0 28:=grownCap_ge w _ _ _;have hGm:grownCap w n 0 28<=maxLen:=grownCap_le_maxLen w n 0 28 (by unfold maxLen;omega);generalize grownCap w n 0 28=G at hrz hG hGm;have hG63:G<=9223372036854775807:=by unfold maxLen at hGm;omega
 go_enter Tryz.func242,Tryz.ntmps242
 go_wp2_with (at_builtin;refine Lib.wpList_append_run _ rfl _ _ _ _ rfl _ _ rfl rfl _ _ (hrz _) ?_)
 all_goals (go_ret;exact⟨_,rfl,World.ownsRow_made _ _ _ (Nat.le_refl _) hGm (by simp[size_zeroCells,Value.cells];omega),rfl,(Below.refl _ w).drew.alloc (Nat.le_refl _) _⟩)
set_option maxRecDepth 100000 in
set_option maxHeartbeats 4000000 in
theorem Wq(ad:Addr)(c:Nat)(rows:List (Nat×List Value))(w:World)(hrows:RowsG w 3 ad rows)(hc:rows.length<=c)(hcm:c<=maxLen)(hpos:0<cF rows)(hbig:cF rows*40<=140737488355328):
 Calls Tryz.prog 218 #[.slice (some ad) rows.length c] w fun e w'=>qY w w' e 3 (cF rows) (jD rows):=by
 obtain⟨i,hi,hzz⟩:=aN.1 FY;simp only[Prod.mk.injEq]at hzz;obtain⟨hz,hs,hby⟩:=hzz;obtain⟨blk,off,spot⟩:=ad;obtain⟨hspot,hrow⟩:=hrows;simp only at hspot hrow;subst hspot;have hc63:rows.length<=9223372036854775807:=by unfold maxLen at hcm;omega
 obtain⟨T,hT⟩:∃T:Nat->Nat,∀k,T k=cF (rows.take k):=⟨_,fun _=>rfl⟩;have HT:Aside (∀k,T k=cF (rows.take k)):=hT;have hT0:T 0=0:=by rw[hT];rfl
 have HS:Aside (∀k (h:k<rows.length),T (k+1)=T k+rows[k].1):=fun k h=>by rw[hT,hT,LN rows k rows[k] (by simp[h])]
 have HB:Aside (∀k,T k*40<=140737488355328):=fun k=>by have:=Kg rows k;rw[hT];omega
 have HL:Aside (T rows.length=cF rows):=by show _=_;rw[hT,List.take_length]
 have A:Aside (RowsG w 3 ⟨blk,off,none⟩ rows):=⟨rfl,hrow⟩;have HP:Aside (0<T rows.length):=by show 0<_;rw[HL.out];exact hpos
 have AI:Aside (Tryz.prog.info? 28=some i/\i.zero=some (Value.agg #[.int .i64 0,.int .i64 0,.slice none 0 0])/\i.size=3/\i.bytes=40):=⟨hi,hz,hs,hby⟩;clear hrow hT hi hz hs hby hbig hpos
 go_enter Tryz.func218,Tryz.ntmps218
 go_wp2
 go_loopg [3,11] rows.length (fun g s3 s11 wr=>∃k:Nat,k<=rows.length/\rows.length-k<=g/\s3= .int .i64 (T k)/\s11= .int .i64 k/\wr=w)
 case atStart=>exact⟨0,Nat.zero_le _,by omega,by rw[hT0];rfl,rfl,rfl⟩
 case round=>
  obtain⟨k,hk,hg,rfl,rfl,rfl⟩:=hrel
  by_cases hlt:k<rows.length
  ·have key:∃(v:Value) (a:Option Addr) (c':Nat),wr.cell? ⟨blk,off+k,none⟩=some v/\v= .slice a rows[k].1 c':=by
    obtain⟨_,_,h|⟨a0,c',h,_⟩⟩:=A.out.row k rows[k] (by simp[hlt])
    ·exact⟨_,none,0,h.2,by rw[h.1]⟩
    ·exact⟨_,_,_,h,rfl⟩
   obtain⟨v,a,c',g1,rfl⟩:=key;have hx:wrap64 ((T k:Int)+(rows[k].1:Int))=(T (k+1):Int):=by have:=HS.out k hlt;have:=HB.out (k+1);unfold wrap64;omega
   have hx2:¬((T (k+1):Int)<0):=by omega
   clear hT0;generalize rows[k].1=m at*
   generalize hT1:T (k+1)=T1 at hx hx2;have L1:Aside (T (k+1)=T1):=hT1;clear hT1;generalize T k=T0 at*
   go_wp2
   go_roundg (rows.length-(k+1))
   case measure=>omega
   case rel=>exact⟨k+1,by omega,by omega,by rw[L1.out],by go_num,rfl⟩
  ·have hkn:k=rows.length:=by omega
   subst hkn;clear hT0 hlt hk hg
   rename World=>w0
   have G:=QA (T rows.length) w0 HP.out (HB.out _);generalize T rows.length=N at G⊢
   go_wp2_with (go_at_call 242;refine G.mono ?_;rintro e w2 ⟨v,rfl,o1,o2,o3⟩;have O:Aside (w2.ownsRow w0.heap.size 28 3 v 0 []/\Below w0.heap.size w0 w2):=⟨o1,o3⟩;clear o1 o2 o3)
   clear G
   go_loopg [6,27] rows.length (fun g s6 s27 wx=>∃k:Nat,k<=rows.length/\rows.length-k<=g/\s27= .int .i64 k/\Aside (wx.ownsRow w0.heap.size 28 3 s6 (T k) (jD (rows.take k))/\Below w0.heap.size w0 wx))
   case atStart=>exact⟨0,Nat.zero_le _,by omega,rfl,by rw[HT.out];exact O⟩
   case round=>
    obtain⟨k,hk,hg,rfl,R⟩:=hrel
    by_cases hlt:k<rows.length
    ·have key:∃(v v':Value) (w':World),wr.cell? ⟨blk,off+k,none⟩=some v/\(Builtin.append_ #[26,26] 26 #[u6,v]).run Tryz.prog wr= .ok v' w'/\
      Aside (w'.ownsRow w0.heap.size 28 3 v' (T (k+1)) (jD (rows.take (k+1)))/\Below w0.heap.size w0 w'):=by
      obtain⟨q1,q2,hq⟩:=A.out.row k rows[k] (by simp[hlt]);obtain⟨R1,R2⟩:=R.out;obtain⟨hi,hz,hs,hby⟩:=AI.out;have hTS:=HS.out k hlt;rw[hTS,N0 rows k rows[k] (by simp[hlt])];rcases hq with⟨h0,g1⟩|⟨a0,c',g1,g3⟩
      ·refine⟨_,u6,wr,by rw[R2.cell (uD g1)];exact g1,run_append_owned_none (P:=Tryz.prog) (w:=wr) w0.heap.size 26 26 28 i 3 Tryz.underlying26 hi u6 _ _ R1,?_⟩
       have hnil:rows[k].2=[]:=List.eq_nil_of_length_eq_zero (by simp[q1,h0]);rw[h0,hnil,List.append_nil,Nat.add_zero];exact⟨R1,R2⟩
      ·have hb8:=HB.out (k+1)
       obtain⟨v',w',e1,e2,e3,_⟩:=run_append_own (P:=Tryz.prog) (w:=wr) w0.heap.size 26 26 28 i _ 3 40 Tryz.underlying26 hi hz hs hby rfl (by omega) u6 _ _ R1 a0 rows[k].1 c' rows[k].2 q1
        (fun j u hj=>by
         have h1:=g3 j u hj;rw[R2.cell (uD h1)];exact h1)
        q2 (by unfold maxLen;omega) (by omega) R2.size
       exact⟨_,v',w',by rw[R2.cell (uD g1)];exact g1,e1,e2,R2.grown e3 R2.size (fun q hq=>(R1.lt q hq).1)⟩
     obtain⟨v,v',w',g1,g4,X⟩:=key;clear R
     go_wp2_with (at_builtin;refine Lib.wpList_append_run _ rfl _ _ _ _ rfl _ _ rfl rfl _ _ g4 ?_)
     go_roundg (rows.length-(k+1))
     case measure=>omega
     case rel=>exact⟨k+1,by omega,by omega,by go_num,X⟩
    ·have hkn:k=rows.length:=by omega
     subst hkn;clear hlt hk hg
     go_wp2
     go_ret
     obtain⟨⟨_,r2⟩,r3⟩:=R.out;have hTL:=HL.out;have hTP:=HP.out;rw[List.take_length]at r2;rcases r2 with⟨_,h0⟩|⟨gb,cap,cur,rfl,q1,q2,q3,q4,q5,q6⟩
     ·omega
     ·refine⟨gb,cap,cur,28,by simp[hTL],q1,q2,by omega,by omega,q4,fun j x hx=> ?_,r3⟩
      rw[<-q6,List.getElem?_take]at hx;split at hx
      ·simpa using hx
      ·simp at hx
set_option maxRecDepth 100000 in
set_option maxHeartbeats 2000000 in
theorem UH(w:World):Calls Tryz.prog 242 #[.slice none 0 0,.int .i64 0] w fun e w'=>e= .returned (.slice none 0 0)/\w'=w:=by
 go_enter Tryz.func242,Tryz.ntmps242
 go_wp2
 go_ret
 exact⟨rfl,rfl⟩
set_option maxRecDepth 100000 in
set_option maxHeartbeats 4000000 in
theorem Sn(ad:Addr)(c:Nat)(rows:List (Nat×List Value))(w:World)(hrows:RowsG w 3 ad rows)(hc:rows.length<=c)(hcm:c<=maxLen)(h0:cF rows=0):
 Calls Tryz.prog 218 #[.slice (some ad) rows.length c] w fun e w'=>e= .returned (.slice none 0 0)/\w'=w:=by
 obtain⟨i,hi,hzz⟩:=aN.1 FY;obtain⟨blk,off,spot⟩:=ad;obtain⟨hspot,hrow⟩:=hrows;simp only at hspot hrow;subst hspot;have hc63:rows.length<=9223372036854775807:=by unfold maxLen at hcm;omega
 have A:Aside (∀k,k<rows.length->∃(a:Option Addr) (c':Nat),w.cell? ⟨blk,off+k,none⟩=some (.slice a 0 c')):=fun k hk=>by
  have hz:=Iv h0 rows[k] (List.getElem_mem hk);obtain⟨_,_,h|⟨a0,c',h,_⟩⟩:=hrow k rows[k] (by simp[hk])
  ·exact⟨none,0,h.2⟩
  ·exact⟨some a0,c',by rw[h,hz]⟩
 have HI:Aside (Tryz.prog.info? 28=some i):=hi;clear hrow h0 hi hzz
 go_enter Tryz.func218,Tryz.ntmps218
 go_wp2
 go_loopg [3,11] rows.length (fun g s3 s11 wr=>∃k:Nat,k<=rows.length/\rows.length-k<=g/\s3= .int .i64 0/\s11= .int .i64 k/\wr=w)
 case atStart=>exact⟨0,Nat.zero_le _,by omega,rfl,rfl,rfl⟩
 case round=>
  obtain⟨k,hk,hg,rfl,rfl,rfl⟩:=hrel
  by_cases hlt:k<rows.length
  ·obtain⟨a,c',g1⟩:=A.out k hlt
   go_wp2
   go_roundg (rows.length-(k+1))
   case measure=>omega
   case rel=>exact⟨k+1,by omega,by omega,rfl,by go_num,rfl⟩
  ·have hkn:k=rows.length:=by omega
   subst hkn;clear hlt hk hg
   rename World=>w0
   have G:=UH w0
   go_wp2_with (go_at_call 242;refine G.mono ?_;rintro e w2 ⟨rfl,rfl⟩)
   clear G
   go_loopg [6,27] rows.length (fun g s6 s27 wx=>∃k:Nat,k<=rows.length/\rows.length-k<=g/\s27= .int .i64 k/\s6= .slice none 0 0/\wx=w2)
   case atStart=>exact⟨0,Nat.zero_le _,by omega,rfl,rfl,rfl⟩
   case round=>
    obtain⟨k,hk,hg,rfl,rfl,rfl⟩:=hrel
    by_cases hlt:k<rows.length
    ·obtain⟨a,c',g1⟩:=A.out k hlt
     have g4:(Builtin.append_ #[26,26] 26 #[.slice none 0 0,.slice a 0 c']).run Tryz.prog wr= .ok (.slice none 0 0) wr:=N9 wr 26 26 28 i Tryz.underlying26 HI.out none 0 0 (Nat.le_refl _) a c'
     go_wp2_with (at_builtin;refine Lib.wpList_append_run _ rfl _ _ _ _ rfl _ _ rfl rfl _ _ g4 ?_)
     go_roundg (rows.length-(k+1))
     case measure=>omega
     case rel=>exact⟨k+1,by omega,by omega,by go_num,rfl,rfl⟩
    ·have hkn:k=rows.length:=by omega
     subst hkn;clear hlt hk hg
     go_wp2
     go_ret
     exact⟨rfl,rfl⟩
theorem Qx:yL Tryz.prog 218 3 40:=by
 intro ad c rows w hrows hc hcm hbig
 by_cases h:0<cF rows
 ·exact(Wq ad c rows w hrows hc hcm h hbig).mono fun e w' hm=> .inr ⟨h,hm⟩
 ·exact(Sn ad c rows w hrows hc hcm (by omega)).mono fun e w' hm=> .inl ⟨by omega,hm.1,by rw[hm.2];exact Below.refl _ w⟩
theorem Gm:(Tryz.prog.info? 3).map (fun i=>(i.zero,i.size,i.bytes))=some (some (Value.int .i64 0),1,8):=by kernel_rfl
set_option maxRecDepth 100000 in
set_option maxHeartbeats 2000000 in
theorem qOA(n:Nat)(w:World)(hn:0<n)(hb:n*8<=140737488355328):
 Calls Tryz.prog 182 #[.slice none 0 0,.int .i64 n] w fun e w'=>∃v,e= .returned v/\w'.ownsRow w.heap.size 3 1 v 0 []/\v.ownBlock=some w.heap.size/\Below w.heap.size w w':=by
 obtain⟨i,hi,hzz⟩:=aN.1 Gm;simp only[Prod.mk.injEq]at hzz;obtain⟨hz,hs,hby⟩:=hzz;have h1:¬((n:Int)<0):=by omega
 have h3:wrap64 ((n:Int)-0)=(n:Int):=by unfold wrap64;omega
 have h4:(n:Int)>0:=by omega
 have hrz:∀ty,(Builtin.append_ #[34,3] ty #[.slice none 0 0,.int .i64 (n:Int)]).run Tryz.prog w=
  .ok (.slice (some ⟨w.heap.size,0,none⟩) n (grownCap w n 0 3)) (w.drew.alloc (.cells (Builtin.zeroCells (Value.int .i64 0).cells n++Builtin.zeroCells (Value.int .i64 0).cells (grownCap w n 0 3-n)) 3)):=fun ty=>
  run_append_nil_zeros w 34 3 ty 3 i _ .i64 .i64 Tryz.underlying34 Tryz.underlying3 hi hz n hn (by omega) (by omega) (by rw[hby];omega)
 have hG:n<=grownCap w n 0 3:=grownCap_ge w _ _ _;have hGm:grownCap w n 0 3<=maxLen:=grownCap_le_maxLen w n 0 3 (by unfold maxLen;omega);generalize grownCap w n 0 3=G at hrz hG hGm;have hG63:G<=9223372036854775807:=by unfold maxLen at hGm;omega
 go_enter Tryz.func182,Tryz.ntmps182
 go_wp2_with (at_builtin;refine Lib.wpList_append_run _ rfl _ _ _ _ rfl _ _ rfl rfl _ _ (hrz _) ?_)
 all_goals (go_ret;exact⟨_,rfl,World.ownsRow_made _ _ _ (Nat.le_refl _) hGm (by simp[size_zeroCells,Value.cells];omega),rfl,(Below.refl _ w).drew.alloc (Nat.le_refl _) _⟩)
set_option maxRecDepth 100000 in
set_option maxHeartbeats 4000000 in
theorem Q5(ad:Addr)(c:Nat)(rows:List (Nat×List Value))(w:World)(hrows:RowsG w 1 ad rows)(hc:rows.length<=c)(hcm:c<=maxLen)(hpos:0<cF rows)(hbig:cF rows*8<=140737488355328):
 Calls Tryz.prog 142 #[.slice (some ad) rows.length c] w fun e w'=>qY w w' e 1 (cF rows) (jD rows):=by
 obtain⟨i,hi,hzz⟩:=aN.1 Gm;simp only[Prod.mk.injEq]at hzz;obtain⟨hz,hs,hby⟩:=hzz;obtain⟨blk,off,spot⟩:=ad;obtain⟨hspot,hrow⟩:=hrows;simp only at hspot hrow;subst hspot;have hc63:rows.length<=9223372036854775807:=by unfold maxLen at hcm;omega
 obtain⟨T,hT⟩:∃T:Nat->Nat,∀k,T k=cF (rows.take k):=⟨_,fun _=>rfl⟩;have HT:Aside (∀k,T k=cF (rows.take k)):=hT;have hT0:T 0=0:=by rw[hT];rfl
 have HS:Aside (∀k (h:k<rows.length),T (k+1)=T k+rows[k].1):=fun k h=>by rw[hT,hT,LN rows k rows[k] (by simp[h])]
 have HB:Aside (∀k,T k*8<=140737488355328):=fun k=>by have:=Kg rows k;rw[hT];omega
 have HL:Aside (T rows.length=cF rows):=by show _=_;rw[hT,List.take_length]
 have A:Aside (RowsG w 1 ⟨blk,off,none⟩ rows):=⟨rfl,hrow⟩;have HP:Aside (0<T rows.length):=by show 0<_;rw[HL.out];exact hpos
 have AI:Aside (Tryz.prog.info? 3=some i/\i.zero=some (Value.int .i64 0)/\i.size=1/\i.bytes=8):=⟨hi,hz,hs,hby⟩;clear hrow hT hi hz hs hby hbig hpos
 go_enter Tryz.func142,Tryz.ntmps142
 go_wp2
 go_loopg [3,11] rows.length (fun g s3 s11 wr=>∃k:Nat,k<=rows.length/\rows.length-k<=g/\s3= .int .i64 (T k)/\s11= .int .i64 k/\wr=w)
 case atStart=>exact⟨0,Nat.zero_le _,by omega,by rw[hT0];rfl,rfl,rfl⟩
 case round=>
  obtain⟨k,hk,hg,rfl,rfl,rfl⟩:=hrel
  by_cases hlt:k<rows.length
  ·have key:∃(v:Value) (a:Option Addr) (c':Nat),wr.cell? ⟨blk,off+k,none⟩=some v/\v= .slice a rows[k].1 c':=by
    obtain⟨_,_,h|⟨a0,c',h,_⟩⟩:=A.out.row k rows[k] (by simp[hlt])
    ·exact⟨_,none,0,h.2,by rw[h.1]⟩
    ·exact⟨_,_,_,h,rfl⟩
   obtain⟨v,a,c',g1,rfl⟩:=key;have hx:wrap64 ((T k:Int)+(rows[k].1:Int))=(T (k+1):Int):=by have:=HS.out k hlt;have:=HB.out (k+1);unfold wrap64;omega
   have hx2:¬((T (k+1):Int)<0):=by omega
   clear hT0;generalize rows[k].1=m at*
   generalize hT1:T (k+1)=T1 at hx hx2;have L1:Aside (T (k+1)=T1):=hT1;clear hT1;generalize T k=T0 at*
   go_wp2
   go_roundg (rows.length-(k+1))
   case measure=>omega
   case rel=>exact⟨k+1,by omega,by omega,by rw[L1.out],by go_num,rfl⟩
  ·have hkn:k=rows.length:=by omega
   subst hkn;clear hT0 hlt hk hg
   rename World=>w0
   have G:=qOA (T rows.length) w0 HP.out (HB.out _);generalize T rows.length=N at G⊢
   go_wp2_with (go_at_call 182;refine G.mono ?_;rintro e w2 ⟨v,rfl,o1,o2,o3⟩;have O:Aside (w2.ownsRow w0.heap.size 3 1 v 0 []/\Below w0.heap.size w0 w2):=⟨o1,o3⟩;clear o1 o2 o3)
   clear G
   go_loopg [6,27] rows.length (fun g s6 s27 wx=>∃k:Nat,k<=rows.length/\rows.length-k<=g/\s27= .int .i64 k/\Aside (wx.ownsRow w0.heap.size 3 1 s6 (T k) (jD (rows.take k))/\Below w0.heap.size w0 wx))
   case atStart=>exact⟨0,Nat.zero_le _,by omega,rfl,by rw[HT.out];exact O⟩
   case round=>
    obtain⟨k,hk,hg,rfl,R⟩:=hrel
    by_cases hlt:k<rows.length
    ·have key:∃(v v':Value) (w':World),wr.cell? ⟨blk,off+k,none⟩=some v/\(Builtin.append_ #[34,34] 34 #[u6,v]).run Tryz.prog wr= .ok v' w'/\
      Aside (w'.ownsRow w0.heap.size 3 1 v' (T (k+1)) (jD (rows.take (k+1)))/\Below w0.heap.size w0 w'):=by
      obtain⟨q1,q2,hq⟩:=A.out.row k rows[k] (by simp[hlt]);obtain⟨R1,R2⟩:=R.out;obtain⟨hi,hz,hs,hby⟩:=AI.out;have hTS:=HS.out k hlt;rw[hTS,N0 rows k rows[k] (by simp[hlt])];rcases hq with⟨h0,g1⟩|⟨a0,c',g1,g3⟩
      ·refine⟨_,u6,wr,by rw[R2.cell (uD g1)];exact g1,run_append_owned_none (P:=Tryz.prog) (w:=wr) w0.heap.size 34 34 3 i 1 Tryz.underlying34 hi u6 _ _ R1,?_⟩
       have hnil:rows[k].2=[]:=List.eq_nil_of_length_eq_zero (by simp[q1,h0]);rw[h0,hnil,List.append_nil,Nat.add_zero];exact⟨R1,R2⟩
      ·have hb8:=HB.out (k+1)
       obtain⟨v',w',e1,e2,e3,_⟩:=run_append_own (P:=Tryz.prog) (w:=wr) w0.heap.size 34 34 3 i _ 1 8 Tryz.underlying34 hi hz hs hby rfl (by omega) u6 _ _ R1 a0 rows[k].1 c' rows[k].2 q1
        (fun j u hj=>by
         have h1:=g3 j u hj;rw[R2.cell (uD h1)];exact h1)
        q2 (by unfold maxLen;omega) (by omega) R2.size
       exact⟨_,v',w',by rw[R2.cell (uD g1)];exact g1,e1,e2,R2.grown e3 R2.size (fun q hq=>(R1.lt q hq).1)⟩
     obtain⟨v,v',w',g1,g4,X⟩:=key;clear R
     go_wp2_with (at_builtin;refine Lib.wpList_append_run _ rfl _ _ _ _ rfl _ _ rfl rfl _ _ g4 ?_)
     go_roundg (rows.length-(k+1))
     case measure=>omega
     case rel=>exact⟨k+1,by omega,by omega,by go_num,X⟩
    ·have hkn:k=rows.length:=by omega
     subst hkn;clear hlt hk hg
     go_wp2
     go_ret
     obtain⟨⟨_,r2⟩,r3⟩:=R.out;have hTL:=HL.out;have hTP:=HP.out;rw[List.take_length]at r2;rcases r2 with⟨_,h0⟩|⟨gb,cap,cur,rfl,q1,q2,q3,q4,q5,q6⟩
     ·omega
     ·refine⟨gb,cap,cur,3,by simp[hTL],q1,q2,by omega,by omega,q4,fun j x hx=> ?_,r3⟩
      rw[<-q6,List.getElem?_take]at hx;split at hx
      ·simpa using hx
      ·simp at hx
set_option maxRecDepth 100000 in
set_option maxHeartbeats 2000000 in
theorem VF(w:World):Calls Tryz.prog 182 #[.slice none 0 0,.int .i64 0] w fun e w'=>e= .returned (.slice none 0 0)/\w'=w:=by
 go_enter Tryz.func182,Tryz.ntmps182
 go_wp2
 go_ret
 exact⟨rfl,rfl⟩
set_option maxRecDepth 100000 in
set_option maxHeartbeats 4000000 in
theorem Sb(ad:Addr)(c:Nat)(rows:List (Nat×List Value))(w:World)(hrows:RowsG w 1 ad rows)(hc:rows.length<=c)(hcm:c<=maxLen)(h0:cF rows=0):
 Calls Tryz.prog 142 #[.slice (some ad) rows.length c] w fun e w'=>e= .returned (.slice none 0 0)/\w'=w:=by
 obtain⟨i,hi,hzz⟩:=aN.1 Gm;obtain⟨blk,off,spot⟩:=ad;obtain⟨hspot,hrow⟩:=hrows;simp only at hspot hrow;subst hspot;have hc63:rows.length<=9223372036854775807:=by unfold maxLen at hcm;omega
 have A:Aside (∀k,k<rows.length->∃(a:Option Addr) (c':Nat),w.cell? ⟨blk,off+k,none⟩=some (.slice a 0 c')):=fun k hk=>by
  have hz:=Iv h0 rows[k] (List.getElem_mem hk);obtain⟨_,_,h|⟨a0,c',h,_⟩⟩:=hrow k rows[k] (by simp[hk])
  ·exact⟨none,0,h.2⟩
  ·exact⟨some a0,c',by rw[h,hz]⟩
 have HI:Aside (Tryz.prog.info? 3=some i):=hi;clear hrow h0 hi hzz
 go_enter Tryz.func142,Tryz.ntmps142
 go_wp2
 go_loopg [3,11] rows.length (fun g s3 s11 wr=>∃k:Nat,k<=rows.length/\rows.length-k<=g/\s3= .int .i64 0/\s11= .int .i64 k/\wr=w)
 case atStart=>exact⟨0,Nat.zero_le _,by omega,rfl,rfl,rfl⟩
 case round=>
  obtain⟨k,hk,hg,rfl,rfl,rfl⟩:=hrel
  by_cases hlt:k<rows.length
  ·obtain⟨a,c',g1⟩:=A.out k hlt
   go_wp2
   go_roundg (rows.length-(k+1))
   case measure=>omega
   case rel=>exact⟨k+1,by omega,by omega,rfl,by go_num,rfl⟩
  ·have hkn:k=rows.length:=by omega
   subst hkn;clear hlt hk hg
   rename World=>w0
   have G:=VF w0
   go_wp2_with (go_at_call 182;refine G.mono ?_;rintro e w2 ⟨rfl,rfl⟩)
   clear G
   go_loopg [6,27] rows.length (fun g s6 s27 wx=>∃k:Nat,k<=rows.length/\rows.length-k<=g/\s27= .int .i64 k/\s6= .slice none 0 0/\wx=w2)
   case atStart=>exact⟨0,Nat.zero_le _,by omega,rfl,rfl,rfl⟩
   case round=>
    obtain⟨k,hk,hg,rfl,rfl,rfl⟩:=hrel
    by_cases hlt:k<rows.length
    ·obtain⟨a,c',g1⟩:=A.out k hlt
     have g4:(Builtin.append_ #[34,34] 34 #[.slice none 0 0,.slice a 0 c']).run Tryz.prog wr= .ok (.slice none 0 0) wr:=N9 wr 34 34 3 i Tryz.underlying34 HI.out none 0 0 (Nat.le_refl _) a c'
     go_wp2_with (at_builtin;refine Lib.wpList_append_run _ rfl _ _ _ _ rfl _ _ rfl rfl _ _ g4 ?_)
     go_roundg (rows.length-(k+1))
     case measure=>omega
     case rel=>exact⟨k+1,by omega,by omega,by go_num,rfl,rfl⟩
    ·have hkn:k=rows.length:=by omega
     subst hkn;clear hlt hk hg
     go_wp2
     go_ret
     exact⟨rfl,rfl⟩
theorem Xm:yL Tryz.prog 142 1 8:=by
 intro ad c rows w hrows hc hcm hbig
 by_cases h:0<cF rows
 ·exact(Q5 ad c rows w hrows hc hcm h hbig).mono fun e w' hm=> .inr ⟨h,hm⟩
 ·exact(Sb ad c rows w hrows hc hcm (by omega)).mono fun e w' hm=> .inl ⟨by omega,hm.1,by rw[hm.2];exact Below.refl _ w⟩
theorem OL:(Tryz.prog.info? 28).map (fun i=>(i.zero,i.size,i.bytes))=some (some (Value.agg #[.int .i64 0,.int .i64 0,.slice none 0 0]),3,40):=by kernel_rfl
set_option maxRecDepth 100000 in
set_option maxHeartbeats 2000000 in
theorem R7(ad:Addr)(n c:Nat)(cs:List Value)(w:World)(hsp:ad.spot=none)(hl:cs.length=n*3)(hn:n<=maxLen)(hbig:n*40<=140737488355328)
 (hcell:∀(j:Nat) (u:Value),cs[j]?=some u->w.cell? ⟨ad.block,ad.off+j,none⟩=some u) (h1:∀u,u∈cs->u.oneCell'=true):
 Calls Tryz.prog 207 #[.slice (some ad) n c] w fun e w'=>∃v,e= .returned v/\w'.ownsRow w.heap.size 28 3 v n cs/\v≠.slice none 0 0/\Below w.heap.size w w':=by
 obtain⟨i,hi,hzz⟩:=aN.1 OL;simp only[Prod.mk.injEq]at hzz;obtain⟨hz,hs,hby⟩:=hzz;obtain⟨b,off,sp⟩:=ad;simp only at hsp hcell;subst hsp;have A:Aside (∀(j:Nat) (u:Value),cs[j]?=some u->w.cell? ⟨b,off+j,none⟩=some u):=hcell;have q22:∀(w:World) (a:Option Addr) (n c n' c':Nat),(binOp .eql 26 (.slice a n c) (.slice none n' c')).run Tryz.prog w= .ok (.bool a.isNone) w:=fun w a n c n' c'=>Lib.run_eql_slice_nil w _ _ a n c n' c' Tryz.underlying26
 clear hcell
 go_enter Tryz.func207,Tryz.ntmps207
 go_wp2_with (at_builtin;refine wpList_append_own _ rfl _ _ 26 rfl w.heap.size 28 i _ 3 40 Tryz.underlying26 hi hz hs hby rfl (by decide) _ _ _ rfl (World.ownsRow_made w #[] 0 (Nat.le_refl _) (Nat.zero_le _) (by simp)) ⟨b,off,none⟩ n c cs rfl ?qc1 ?qc2 ?qc3 ?qc4 ?qc5 ?qc6 ?_)
 case qc1=>exact hl
 case qc2=>
  intro j u hj;rw[B5];exact Lib.cell?_alloc_some _ (A.out j u hj)
 case qc3=>exact h1
 case qc4=>rw[Nat.zero_add];exact hn
 case qc5=>rw[Nat.zero_add];exact hbig
 case qc6=>simp
 intro v' w1 hown hgrow hnil
 go_wp2
 go_ret
 refine⟨v',rfl,by simpa using hown,hnil,?_⟩;exact((Below.refl _ w).alloc (Nat.le_refl _) _).grown hgrow (by simp) (by intro k hk;simp[Value.ownBlock]at hk;omega)
theorem XA{w:World}{b o:Nat}{v:Value}{cur:Array Value}{e:TypeId}{z:Nat×Nat}(h:w.heap[b]?=some (.cells cur e z)):(w.setCell ⟨b,o,none⟩ v).heap[b]?=some (.cells (cur.setIfInBounds o v) e z):=by
 simp only[World.setCell,Array.getElem?_modify,h];simp
theorem yy(b:Nat)(e:TypeId)(z:Nat×Nat):∀(vs:List Value) (o:Nat) (w:World) (cur:Array Value),w.heap[b]?=some (.cells cur e z)->o+vs.length<=cur.size->
 ∃cur',(w.setCells b o vs).heap[b]?=some (.cells cur' e z)/\cur'.size=cur.size/\(∀j,cur'[j]?=if o<=j/\j<o+vs.length then vs[j-o]? else cur[j]?)/\∀B,B<=b->Below B w (w.setCells b o vs)
 | [],o,w,cur,h,_=>⟨cur,h,rfl,fun j=>by
  have:¬(o<=j/\j<o+0):=by omega
  simp only[List.length_nil];rw[if_neg this],fun B _=>Below.refl B w⟩
 |v::vs,o,w,cur,h,hl=>by
  simp only[List.length_cons]at hl;obtain⟨cur',h1,h2,h3,h4⟩:=yy b e z vs (o+1) (w.setCell ⟨b,o,none⟩ v) (cur.setIfInBounds o v) (XA h) (by simp;omega);refine⟨cur',h1,by rw[h2];simp,fun j=> ?_,fun B hB=>((Below.refl B w).setCell (p:=⟨b,o,none⟩) hB v).trans (h4 B hB)⟩;rw[h3];simp only[List.length_cons]
  by_cases c1:o+1<=j/\j<o+1+vs.length
  ·rw[if_pos c1,if_pos ⟨by omega,by omega⟩,show j-o=(j-(o+1))+1 by omega,List.getElem?_cons_succ]
  ·rw[if_neg c1]
   by_cases c2:j=o
   ·subst c2
    rw[if_pos ⟨Nat.le_refl _,by omega⟩,Nat.sub_self,List.getElem?_cons_zero,Array.getElem?_setIfInBounds,if_pos rfl,if_pos (by omega)]
   ·rw[if_neg (by omega),Array.getElem?_setIfInBounds_ne (by omega)]
theorem qq2{P:Program}(w:World)(t e ty:TypeId)(z:Value)(ht:P.underlying t=some (.slice e))(hv:∀w,(zeroValue e).run P w= .ok z w)(h1:∀u,u∈z.cells.toList->u.oneCell'=true)(b o c:Nat)
 (hc:∀j,j<z.cells.size->(w.cell? ⟨b,o+j,none⟩).isSome=true) (hf:∀j,j<z.cells.size->w.frozen? ⟨b,o+j,none⟩=false):
 (Builtin.clear_ #[t] ty #[.slice (some ⟨b,o,none⟩) 1 c]).run P w= .ok (.tuple #[]) (w.setCells b o z.cells.toList):=by
 have hzc:(Builtin.zeroCells z.cells 1).toList=z.cells.toList:=by
  simp[Builtin.zeroCells];apply List.ext_getElem
  ·simp
  ·intro i h1 h2
   simp only[List.getElem_map,List.getElem_range,Array.getElem_toList];simp at h1;rw[Nat.mod_eq_of_lt (by omega)];simp[h1]
 have hst:=run_storeCells_cells (P:=P) b o z.cells.toList 0 w (by simpa using hc) (by simpa using hf) h1;simp only[Nat.add_zero]at hst;simp[Builtin.clear_,run_underlying ht,hv,hzc,hst]
set_option maxRecDepth 100000 in
set_option maxHeartbeats 4000000 in
theorem qxE(g cap n i:Nat)(cur:Array Value)(cs:List Value)(w:World)(hg:w.heap[g]?=some (.cells cur 28 (0,0)))(hcur:cur.size=cap*3)(htake:cur.toList.take (n*3)=cs)(hn:n<=cap)(hcm:cap<=maxLen)(hi:i<n)(h1:∀u,u∈cs->u.oneCell'=true):
 Calls Tryz.prog 206 #[.slice (some ⟨g,0,none⟩) n cap,.int .i64 i,.int .i64 ((i:Int)+1)] w fun e w'=>e= .returned (.slice (some ⟨g,0,none⟩) (n-1) cap)/\
  ∃cur',w'.heap[g]?=some (.cells cur' 28 (0,0))/\cur'.size=cap*3/\(∀(j:Nat) (u:Value),(cs.take (i*3)++cs.drop ((i+1)*3))[j]?=some u->cur'[j]?=some u)/\∀B,B<=g->Below B w w':=by
 obtain⟨i0,hi0,hzz⟩:=aN.1 OL;simp only[Prod.mk.injEq]at hzz;obtain⟨hz,hs,hby⟩:=hzz;have hlen:cs.length=n*3:=by rw[<-htake,List.length_take,Array.length_toList,hcur];omega
 have hget:∀(j:Nat) (u:Value),cs[j]?=some u->cur[j]?=some u:=fun j u hj=>by
  rw[<-htake,List.getElem?_take]at hj;split at hj
  ·simpa using hj
  ·simp at hj
 have hcell:∀(j:Nat),j<cap*3->(w.drew.cell? ⟨g,j,none⟩).isSome=true/\w.drew.frozen? ⟨g,j,none⟩=false:=fun j hj=>by
  have:j<cur.size:=by omega
  constructor
  ·show(w.cell? _).isSome=true
   simp[World.cell?,hg,this]
  ·show w.frozen? _=false
   simp[World.frozen?,hg]
 obtain⟨news,hnews⟩:∃news,news=cs.drop ((i+1)*3):=⟨_,rfl⟩;have hnl:news.length=(n-(i+1))*3:=by rw[hnews,List.length_drop,hlen,Nat.sub_mul]
 obtain⟨A,hA,hsrc⟩:∃A:Addr,(if cap=i+1 then some (⟨g,0,none⟩:Addr)else some ⟨g,(i+1)*3,none⟩)=some A/\Hid (∀t u,news[t]?=some u->w.drew.cell? (A.add t)=some u):=by
  by_cases h:cap=i+1
  ·refine⟨⟨g,0,none⟩,by simp[h],fun t u hu=> ?_⟩
   have h0:news.length=0:=by rw[hnl];omega
   rw[List.length_eq_zero_iff.1 h0]at hu;simp at hu
  ·refine⟨⟨g,(i+1)*3,none⟩,by simp[h],fun t u hu=> ?_⟩
   rw[B5];show w.cell? _=some u;rw[hnews,List.getElem?_drop]at hu;have:=hget _ _ hu;simp[World.cell?,hg,this]
 have s1:Hid (news.length=(n-(i+1))*3):=hnl;have s2:Hid (∀u∈news,u.oneCell'=true):=fun u hu=>h1 u (by rw[hnews]at hu;exact List.mem_of_mem_drop hu)
 have s3:Hid (∀t,t<news.length->(w.drew.cell? ⟨g,0+i*3+t,none⟩).isSome=true/\w.drew.frozen? ⟨g,0+i*3+t,none⟩=false):=fun t ht=>by
  rw[hnl]at ht;exact hcell _ (by omega)
 obtain⟨W1,hW1⟩:∃W1,W1=w.drew.setCells g (0+i*3) news:=⟨_,rfl⟩;obtain⟨cur1,k1,k2,k3,k4⟩:=yy g 28 (0,0) news (0+i*3) w.drew cur hg (by rw[hnl];omega);rw[<-hW1]at k1 k4;have hcl:∀ty,(Builtin.clear_ #[26] ty #[.slice (some ⟨g,(i+(n-(i+1)))*3,none⟩) (n-(i+(n-(i+1)))) (cap-(i+(n-(i+1))))]).run Tryz.prog W1= .ok (.tuple #[]) (W1.setCells g ((i+(n-(i+1)))*3) [.int .i64 0,.int .i64 0,.slice none 0 0]):=fun ty=>by
  have e:n-(i+(n-(i+1)))=1:=by omega
  rw[e];have hv:∀w,(zeroValue 28).run Tryz.prog w= .ok (Value.agg #[.int .i64 0,.int .i64 0,.slice none 0 0]) w:=fun w=>by simp[zeroValue,typeInfo,hi0,hz]
  refine qq2 W1 _ _ ty _ Tryz.underlying26 hv (fun u hu=> ?_) g _ _ (fun j hj=> ?_) (fun j hj=> ?_)
  ·simp[Value.cells]at hu;rcases hu with rfl|rfl|rfl<;>rfl
  ·simp[Value.cells]at hj
   have:(i+(n-(i+1)))*3+j<cur1.size:=by omega
   simp[World.cell?,k1,this]
  ·simp[World.frozen?,k1]
 have X:Aside (∀(u:Nat),u=u):=fun _=>rfl
 have hW:Hid (W1=w.drew.setCells g (0+i*3) news):=hW1;have K:Aside (W1.heap[g]?=some (.cells cur1 28 (0,0))/\cur1.size=cur.size/\(∀j,cur1[j]?=if 0+i*3<=j/\j<0+i*3+news.length then news[j-(0+i*3)]? else cur[j]?)/\∀B,B<=g->Below B w.drew W1):=⟨k1,k2,k3,k4⟩;have HN:Aside (news=cs.drop ((i+1)*3)/\cs.length=n*3/\cur.size=cap*3):=⟨hnews,hlen,hcur⟩;have HG:Aside (∀(j:Nat) (u:Value),cs[j]?=some u->cur[j]?=some u):=hget;have hic:i<=cap:=by omega
 have hjc:i+1<=cap:=by omega
 have hcap63:cap<=9223372036854775807:=by unfold maxLen at hcm;omega
 have hq1:(0:Int)<=(i:Int)+1:=by omega
 have hq2:(i:Int)+1<=(n:Int):=by omega
 have mixed:Tryz.prog.follows .mixedOrders=true:=by kernel_rfl
 clear hW1 k1 k2 k3 k4 hget hnews hlen hcell hnl htake hg hcur h1
 go_enter Tryz.func206,Tryz.ntmps206
 go_wp2_with fail
 go_region_law_o (refine step_append_room rfl (.tmp 22) (.tmp 25) 26 rfl 28 i0 3 Tryz.underlying26 hi0 hs g 0 i cap (by simp[Act.eval,Act.put]) A (n-(i+1)) (cap-(i+1)) news (by simp[Act.eval,Act.put]) s1.out hsrc.out s2.out (by omega) s3.out ?_;rw[<-hW.out])
 go_wp2
 go_ret
 obtain⟨k1,k2,k3,k4⟩:=K.out;obtain⟨n1,n2,n3⟩:=HN.out;obtain⟨cur2,m1,m2,m3,m4⟩:=yy g 28 (0,0) [.int .i64 0,.int .i64 0,.slice none 0 0] ((i+(n-(i+1)))*3) W1 cur1 k1 (by simp;omega);refine⟨by rw[show i+(n-(i+1))=n-1 by omega];rfl,cur2,m1,by omega,fun j u hj=> ?_,fun B hB=>(((Below.refl B w).drew).trans (k4 B hB)).trans (m4 B hB)⟩;have hjl:=(List.getElem?_eq_some_iff.1 hj).1;simp only[cG,List.length_take,List.length_drop,n2]at hjl;have hjn:j<(n-1)*3:=by omega
 rw[m3,if_neg (by simp;omega),k3];rw[List.getElem?_append]at hj;simp only[List.length_take,n2]at hj
 by_cases c:j<i*3
 ·rw[if_pos (by omega),List.getElem?_take,if_pos c]at hj
  rw[if_neg (by omega)];exact HG.out j u hj
 ·rw[if_neg (by omega)]at hj
  have e:min (i*3) (n*3)=i*3:=by omega
  rw[e]at hj;have hl:news.length=(n-(i+1))*3:=s1.out;rw[if_pos (by rw[hl];omega),n1,show j-(0+i*3)=j-i*3 by omega];exact hj
set_option maxRecDepth 100000 in
set_option maxHeartbeats 4000000 in
theorem qsB:OM Tryz.prog 178:=by
 intro ad n c i cs w hsp hl hi hn hbig hcell h1;have C:=R7 ad n c cs w hsp hl hn hbig hcell h1;have H1:Aside (∀u,u∈cs->u.oneCell'=true):=h1;have hadd:wrap64 ((i:Int)+1)=(i:Int)+1:=by unfold maxLen at hn;unfold wrap64;omega
 clear hcell h1
 go_enter Tryz.func178,Tryz.ntmps178
 go_wp2_with (first
  |(go_at_call 207;refine C.mono ?_;rintro e w2 ⟨v,rfl,⟨o1,o2⟩,hv,o3⟩
    obtain⟨g,cap,cur,rfl,q1,q2,q3,q4,q5,q6⟩:∃g cap cur,v= .slice (some ⟨g,0,none⟩) n cap/\w.heap.size<=g/\w2.heap[g]?=some (.cells cur 28 (0,0))/\n<=cap/\cap<=maxLen/\cur.size=cap*3/\cur.toList.take (n*3)=cs:=by
     rcases o2 with⟨h,_⟩|h
     ·exact absurd h hv
     ·exact h
    have O:Aside (Below w.heap.size w w2/\w.heap.size<=g):=⟨o3,q1⟩;have D:=qxE g cap n i cur cs w2 q2 q5 q6 q3 q4 hi H1.out;have CM:Aside (cap<=maxLen/\n<=cap):=⟨q4,q3⟩;clear o1 o2 o3 hv q1 q2 q3 q4 q5 q6)
  |(go_at_call 206;refine D.mono ?_;rintro e w3 ⟨rfl,cur',d1,d2,d3,d4⟩
    have R:Aside (w3.heap[g]?=some (.cells cur' 28 (0,0))/\cur'.size=cap*3/\(∀(j:Nat) (u:Value),(cs.take (i*3)++cs.drop ((i+1)*3))[j]?=some u->cur'[j]?=some u)/\∀B,B<=g->Below B w2 w3):=⟨d1,d2,d3,d4⟩;clear d1 d2 d3 d4))
 go_ret
 obtain⟨r1,r2,r3,r4⟩:=R.out;obtain⟨o1,o2⟩:=O.out;obtain⟨c1,c2⟩:=CM.out;exact⟨g,cap,cur',28,rfl,o2,r1,by omega,by omega,c1,r3,o1.trans (r4 _ o2)⟩
theorem Mw{P:Program}(w:World)(dT sT ty elem:TypeId)(sz b o dLen dCap:Nat)(a:Addr)(sLen sCap m:Nat)(cs:List Value)
 (hu:P.underlying dT=some (.slice elem)) (hs:(P.info? elem).map (·.size)=some sz) (hm:Nat.min sLen dLen=m) (hn:cs.length=m*sz)
 (hsrc:∀j v,cs[j]?=some v->w.cell? (a.add j)=some v) (hc:∀j,j<cs.length->(w.cell? ⟨b,o+j,none⟩).isSome=true) (hf:∀j,j<cs.length->w.frozen? ⟨b,o+j,none⟩=false) (h1:∀v∈cs,v.oneCell'=true):
 (Builtin.copy_ #[dT,sT] ty #[.slice (some ⟨b,o,none⟩) dLen dCap,.slice (some a) sLen sCap]).run P w= .ok (goInt m) (w.setCells b o cs):=by
 have hl:=run_loadCells_list (P:=P) w a cs hsrc;have hst:=run_storeCells_cells (P:=P) b o cs 0 w (by simpa using hc) (by simpa using hf) h1;cases hq:P.info? elem with
 |none=>simp[hq]at hs
 |some i=>
  have hi:i.size=sz:=by simpa[hq]using hs
  have hcap:(Builtin.firstCells sz m (.slice (some a) sLen sCap)).run P w= .ok cs.toArray w:=by
   rw[hn]at hl;simp[Builtin.firstCells,hl]
  simp only[Nat.add_zero]at hst;simp[Builtin.copy_,run_underlying hu,Builtin.lenOf,sizeOf,typeInfo,hq,hi,hm,hcap,hst]
theorem QY:(Tryz.prog.info? 28).map (fun i=>(i.zero,i.size,i.bytes))=some (some (Value.agg #[.int .i64 0,.int .i64 0,.slice none 0 0]),3,40):=by kernel_rfl
set_option maxRecDepth 100000 in
set_option maxHeartbeats 4000000 in
theorem qv4(hM:∀(x y:Nat) (w:World),x<18446744073709551616->y<18446744073709551616->Calls Tryz.prog 253 #[.int .u64 x,.int .u64 y] w fun e w'=>e= .returned (.tuple #[.int .u64 ((x*y/18446744073709551616:Nat):Int),.int .u64 ((x*y%18446744073709551616:Nat):Int)])/\w'=w)
 (ad:Addr) (c k:Nat) (cs:List Value) (w:World) (hsp:ad.spot=none) (hl:cs.length=3) (hk:k*40<=140737488355328)
 (hcell:∀(j:Nat) (u:Value),cs[j]?=some u->w.cell? ⟨ad.block,ad.off+j,none⟩=some u) (h1:∀u,u∈cs->u.oneCell'=true):
 Calls Tryz.prog 243 #[.slice (some ad) 1 c,.int .i64 k] w fun e w'=>qY w w' e 3 k (List.replicate k cs).flatten:=by
 obtain⟨i,hi,hzz⟩:=aN.1 QY;simp only[Prod.mk.injEq]at hzz;obtain⟨hz,hs,hby⟩:=hzz;obtain⟨b,off,sp⟩:=ad;simp only at hsp hcell;subst hsp;have A:Aside (∀(j:Nat) (u:Value),cs[j]?=some u->w.cell? ⟨b,off+j,none⟩=some u):=hcell;clear hcell;have hMM:Calls Tryz.prog 253 #[.int .u64 1,.int .u64 k] w fun e w'=>e= .returned (.tuple #[.int .u64 0,.int .u64 k])/\w'=w:=by
  have:=hM 1 k w (by omega) (by omega);simpa[Nat.div_eq_of_lt (show k<18446744073709551616 by omega),Nat.mod_eq_of_lt (show k<18446744073709551616 by omega)]using this
 have n1:¬((k:Int)<0):=by omega
 have n2:¬((k:Int)>9223372036854775807):=by omega
 have FOL:Tryz.prog.follows .mixedOrders=true:=by kernel_rfl
 have h63:(k:Int)<=9223372036854775807:=by omega
 obtain⟨B,hB⟩:∃B,B=w.heap.size:=⟨_,rfl⟩;obtain⟨W0,hW0⟩:∃W0,W0=w.alloc (.cells (madeCells (Value.agg #[.int .i64 0,.int .i64 0,.slice none 0 0]).cells (k*3)) 28):=⟨_,rfl⟩;have hh:W0.heap[B]?=some (.cells (madeCells (Value.agg #[.int .i64 0,.int .i64 0,.slice none 0 0]).cells (k*3)) 28 (0,0)):=by rw[hW0,hB];exact heap_alloc_last w _
 have hmk:(Instr.makeSlice 26 (.int .i64 (k:Int)) (.int .i64 (k:Int))).run Tryz.prog w= .ok (.slice (some ⟨B,0,none⟩) k k) W0:=by
  rw[hB,hW0];have:=run_make (P:=Tryz.prog) w 26 28 i _ Tryz.underlying26 hi hz .i64 .i64 k k (by omega) (Int.le_refl _) (by rw[hby];omega) (by omega);simpa[hs]using this
 have hsz:(madeCells (Value.agg #[.int .i64 0,.int .i64 0,.slice none 0 0]).cells (k*3)).size=k*3:=size_madeCells _ _;obtain⟨m0,hm0⟩:∃m0,m0=Nat.min 1 k:=⟨_,rfl⟩;have m1:m0<=k:=by rw[hm0];exact Nat.min_le_right _ _
 have m2:m0<=1:=by rw[hm0];exact Nat.min_le_left _ _
 have m3:0<k->0<m0:=fun h=>by rw[hm0];exact Nat.lt_min.2 ⟨by omega,h⟩
 have l0:(cs.take (m0*3)).length=m0*3:=by rw[List.length_take,hl];omega
 have ok0:∀u,u∈cs.take (m0*3)->u.oneCell'=true:=fun u hu=>h1 u (List.mem_of_mem_take hu)
 obtain⟨W1,hW1⟩:∃W1,W1=W0.setCells B 0 (cs.take (m0*3)):=⟨_,rfl⟩;have hcp:∀ty,(Builtin.copy_ #[26,26] ty #[.slice (some ⟨B,0,none⟩) k k,.slice (some ⟨b,off,none⟩) 1 c]).run Tryz.prog W0= .ok (.int .i64 m0) W1:=fun ty=>by
  rw[hW1];refine Mw W0 _ _ ty 28 3 B 0 k k ⟨b,off,none⟩ 1 c m0 _ Tryz.underlying26 (by rw[hi];simp[hs]) hm0.symm l0 (fun j v hj=> ?_) (fun j hj=> ?_) (fun j hj=> ?_) ok0
  ·rw[B5,hW0]
   rw[List.getElem?_take]at hj;split at hj
   ·exact Lib.cell?_alloc_some _ (A.out j v hj)
   ·simp at hj
  ·have:j<k*3:=by omega
   simp[World.cell?,hh,hsz,this]
  ·simp[World.frozen?,hh]
 have R0:Aside (∃arr,W1.heap[B]?=some (.cells arr 28 (0,0))/\arr.size=k*3/\(∀(j:Nat) (u:Value),(List.replicate m0 cs).flatten[j]?=some u->arr[j]?=some u)/\Below B w W1):=by
  obtain⟨cur1,q1,q2,q3,q4⟩:=yy B 28 (0,0) (cs.take (m0*3)) 0 W0 _ hh (by rw[hsz];omega);refine⟨cur1,by rw[hW1];exact q1,by rw[q2,hsz],fun j u hj=> ?_,?_⟩
  ·have e:(List.replicate m0 cs).flatten=cs.take (m0*3):=by
    rcases Nat.lt_or_ge 0 m0 with h|h
    ·have:m0=1:=by omega
     rw[this];simp[List.take_of_length_le,hl]
    ·have:m0=0:=by omega
     rw[this];simp
   rw[e]at hj;have hlt:=(List.getElem?_eq_some_iff.1 hj).1;rw[q3,if_pos ⟨Nat.zero_le _,by omega⟩];exact hj
  ·rw[hW1]
   exact Below.trans (by rw[hW0,hB];exact(Below.refl _ w).alloc (Nat.le_refl _) _) (q4 B (Nat.le_refl _))
 have HB:Aside (B=w.heap.size):=hB;clear l0 ok0 hB hW0 hW1 hh hm0 hsz
 go_enter Tryz.func243,Tryz.ntmps243
 clear hM
 go_wp2_with (go_at_call 253;refine hMM.mono ?_;rintro e w2 ⟨rfl,rfl⟩)
 clear hMM hmk hcp
 go_loopg [8] k (fun g s8 wr=>∃m:Nat,m<=k/\k-m<=g/\(0<k->0<m)/\s8= .int .i64 m/\Aside (∃arr,wr.heap[B]?=some (.cells arr 28 (0,0))/\arr.size=k*3/\(∀(j:Nat) (u:Value),(List.replicate m cs).flatten[j]?=some u->arr[j]?=some u)/\Below B w2 wr))
 case atStart=>exact⟨m0,m1,by omega,m3,rfl,R0⟩
 case round=>
  obtain⟨m,hm,hg,hp,rfl,R⟩:=hrel
  by_cases hlt:m<k
  ·obtain⟨d,hd⟩:∃d,d=Nat.min m (k-m):=⟨_,rfl⟩
   have d1:d<=m:=by rw[hd];exact Nat.min_le_left _ _
   have d2:d<=k-m:=by rw[hd];exact Nat.min_le_right _ _
   have d3:0<d:=by rw[hd];exact Nat.lt_min.2 ⟨hp (by omega),by omega⟩
   obtain⟨arr,r1,r2,r3,r4⟩:=R.out;have e1:(List.replicate m cs).flatten.length=m*3:=by simp[hl]
   have rl:((List.replicate m cs).flatten.take (d*3)).length=d*3:=by rw[List.length_take,e1];omega
   have hdr:∀p,wr.drew.cell? p=wr.cell? p:=fun _=>rfl
   have cell:∀j,j<k*3->(wr.drew.cell? ⟨B,j,none⟩).isSome=true/\wr.drew.frozen? ⟨B,j,none⟩=false:=fun j hj=>by
    constructor
    ·rw[hdr];simp[World.cell?,r1,r2,hj]
    ·show wr.frozen? _=false
     simp[World.frozen?,r1]
   obtain⟨W2,hW2⟩:∃W2,W2=wr.drew.setCells B (m*3) ((List.replicate m cs).flatten.take (d*3)):=⟨_,rfl⟩;have hcp:∀ty,(Builtin.copy_ #[26,26] ty #[.slice (some ⟨B,m*3,none⟩) (k-m) (k-m),.slice (some ⟨B,0,none⟩) m k]).run Tryz.prog wr.drew= .ok (.int .i64 d) W2:=fun ty=>by
    rw[hW2];refine Mw wr.drew _ _ ty 28 3 B (m*3) (k-m) (k-m) ⟨B,0,none⟩ m k d _ Tryz.underlying26 (by rw[hi];simp[hs]) hd.symm rl (fun j v hj=> ?_) (fun j hj=> ?_) (fun j hj=> ?_) (fun u hu=> ?_)
    ·rw[B5,hdr,Nat.zero_add]
     rw[List.getElem?_take]at hj;split at hj
     ·have:=r3 j v hj
      simp[World.cell?,r1,this]
     ·simp at hj
    ·exact(cell _ (by omega)).1
    ·exact(cell _ (by omega)).2
    ·have:=List.mem_of_mem_take hu
     obtain⟨l,hl1,hl2⟩:=List.mem_flatten.1 this;rw[List.eq_of_mem_replicate hl1]at hl2;exact h1 u hl2
   have R2:Aside (∃arr,W2.heap[B]?=some (.cells arr 28 (0,0))/\arr.size=k*3/\(∀(j:Nat) (u:Value),(List.replicate (m+d) cs).flatten[j]?=some u->arr[j]?=some u)/\Below B w2 W2):=by
    obtain⟨cur1,q1,q2,q3,q4⟩:=yy B 28 (0,0) ((List.replicate m cs).flatten.take (d*3)) (m*3) wr.drew arr r1 (by omega);refine⟨cur1,by rw[hW2];exact q1,by rw[q2,r2],fun j u hj=> ?_,?_⟩
    ·rw[<-List.replicate_append_replicate,List.flatten_append,List.getElem?_append,e1]at hj
     rw[q3,rl];split at hj
     ·rename_i hj1
      rw[if_neg (by omega)];exact r3 j u hj
     ·rename_i hj1
      have hlt2:=(List.getElem?_eq_some_iff.1 hj).1;have e2:(List.replicate d cs).flatten.length=d*3:=by simp[hl]
      rw[if_pos ⟨by omega,by omega⟩,List.getElem?_take,if_pos (by omega)];have e3:(List.replicate m cs).flatten=(List.replicate d cs).flatten++(List.replicate (m-d) cs).flatten:=by
       rw[<-List.flatten_append,List.replicate_append_replicate]
       congr 2
       omega
      rw[e3,d8 (by omega)];exact hj
    ·rw[hW2]
     exact r4.trans (((Below.refl B wr).drew).trans (q4 B (Nat.le_refl _)))
   clear R e1 rl hdr cell hW2 r1 r2 r3 r4 hd;have hne:¬k=m:=by omega
   have hw:IntKind.i64.wrap ((m:Int)+(d:Int))=((m+d:Nat):Int):=by rw[IntKind.wrap_i64];omega
   have HW:Aside (IntKind.i64.wrap ((m:Int)+(d:Int))=((m+d:Nat):Int)):=hw;clear hw
   go_wp2
   go_region_law_o (refine step_copy_runI rfl _ _ 26 26 rfl (.slice (some ⟨B,m*3,none⟩) (k-m) (k-m)) (.slice (some ⟨B,0,none⟩) m k) (by simp[Act.eval,Act.put,hne]) (by simp[Act.eval,Act.put]) (hcp _) ?_)
   go_wp2
   go_roundg (k-(m+d))
   case measure=>omega
   case rel=>exact⟨m+d,by omega,by omega,fun _=>by omega,by rw[HW.out],R2⟩
  ·go_wp2
   go_ret
   have hmk:m=k:=by omega
   subst hmk;obtain⟨arr,r1,r2,r3,r4⟩:=R.out;exact⟨B,m,arr,28,rfl,by rw[HB.out];exact Nat.le_refl _,r1,by omega,Nat.le_refl _,by unfold maxLen;omega,r3,by rw[<-HB.out];exact r4⟩
theorem Qn:M0 Tryz.prog 243:=fun ad c k cs w h1 h2 h3 h4 h5=>qv4 (fun x y w h1 h2=>Tryz.bits_Mul x y h1 h2 w) ad c k cs w h1 h2 h3 h4 h5
end Go.Proofs.YtpcoohnjllclnaaGreat.VS

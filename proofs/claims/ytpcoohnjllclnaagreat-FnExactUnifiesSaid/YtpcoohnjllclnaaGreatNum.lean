/- impl.NumAdd, walked once: it returns a new row, with the number put in by the order. Condition: the list fits into memory. -/
import Derived.Test.YtpcoohnjllclnaaGreatOk
import Derived.Test.YtpcoohnjllclnaaGreatLin
import Derived.Test.YtpcoohnjllclnaaGreatShelf
import Derived.Test.YtpcoohnjllclnaaGreatXP7
import Derived.WalkKit
import Derived.OwnWalk
import Derived.Lib.Walk
import Derived.Lib.SliceRun
import Derived.KernelRfl
set_option linter.unusedSimpArgs false
set_option linter.unusedVariables false
namespace Go.Proofs.YtpcoohnjllclnaaGreat.VS
open Go.RowKit Go.Proofs Go.Lib
theorem H7:InsertSays Tryz.prog 133 3:=⟨Tryz.slices_Insert_int_shift,Tryz.slices_Insert_int_end_room,Tryz.slices_Insert_int_end_grow,Tryz.slices_Insert_int_grow⟩
theorem yI{w:World}{base:Option Addr}{n c:Nat}{xs:List Int}(h:IntsAt w base n c xs)(m:Int):
 Calls Tryz.prog 130 #[.slice base n c,.int .i64 m] w fun e w'=>e= .returned (.bool (xs.contains m))/\Below w.heap.size w w':=
 qwZ (fid:=fid) (X:=XW) Jn JF (k:=54) (fun l n hl=>qIM XW rfl (by kernel_rfl) (by kernel_rfl) rfl (by kernel_rfl) (by kernel_rfl) rfl (by kernel_rfl) (by kernel_rfl) l n hl) h m
theorem Hx{w:World}{base:Option Addr}{n c:Nat}{xs:List Int}(h:IntsAt w base n c xs)(m:Int)(pb:Nat)(ty:TypeId)(hpb:w.heap[pb]?=some (.cells #[.int .i64 m] ty (0,0)))(hne:∀ad,base=some ad->0<n->ad.block≠pb):
 Calls Tryz.prog 131 #[.slice base n c,.func (.func 132) #[] #[.pointer (some ⟨pb,0,none⟩)]] w fun e w'=>e= .returned (.int .i64 (bC (aR (fun i=>decide (aE xs i>m)) xs.length 0)))/\
  w'.os=w.os/\w'.tape=w.tape/\w'.output=w.output/\w.heap.size<=w'.heap.size/\(∀b,b<w.heap.size->b≠pb->w'.heap[b]?=w.heap[b]?)/\w'.cell? ⟨pb,0,none⟩=some (.int .i64 m):=
 Ya (fid:=fid) (X:=XW) Jn JF (k:=47) (kc:=108) (fun l n hl=>qxw XW rfl (by kernel_rfl) (by kernel_rfl) rfl (by kernel_rfl) (by kernel_rfl) l n hl) h m pb ty hpb hne
theorem Dp{w:World}{base:Option Addr}{n c:Nat}{xs:List Int}(h:IntsAt w base n c xs):
 Calls Tryz.prog 129 #[.slice base n c] w fun e w'=>(base=none/\e= .returned (.slice none 0 0)/\w'=w)\/
  (base≠none/\∃g cap arr ty,e= .returned (.slice (some ⟨g,0,none⟩) n cap)/\w.heap.size<=g/\w'.heap[g]?=some (.cells arr ty (0,0))/\cap<=arr.size/\n<=cap/\cap<=maxLen/\(∀(j:Nat) (x:Int),xs[j]?=some x->arr[j]?=some (.int .i64 x))/\Below w.heap.size w w'):=by
 have fin:∀(e:Ending) (w':World) (v:Value) (l:List Value),base≠none->l=xs.map (Value.int .i64)->e= .returned v->w'.ownsRow w.heap.size 3 1 v n l->v≠.slice none 0 0->Below w.heap.size w w'->(base=none/\e= .returned (.slice none 0 0)/\w'=w)\/
  (base≠none/\∃g cap arr ty,e= .returned (.slice (some ⟨g,0,none⟩) n cap)/\w.heap.size<=g/\w'.heap[g]?=some (.cells arr ty (0,0))/\cap<=arr.size/\n<=cap/\cap<=maxLen/\(∀(j:Nat) (x:Int),xs[j]?=some x->arr[j]?=some (.int .i64 x))/\Below w.heap.size w w'):=by
  rintro e w' v l hb rfl rfl ⟨h1,h2⟩ hv hbel
  rcases h2 with⟨h3,_⟩|⟨g,cap,cur,rfl,h3,h4,h5,h6,h7,h8⟩
  ·exact absurd h3 hv
  ·refine .inr ⟨hb,g,cap,cur,_,rfl,h3,h4,by omega,h5,h6,fun j x hx=> ?_,hbel⟩
   have hj:j<n:=by have:=(List.getElem?_eq_some_iff.1 hx).1;have:=h.len;omega
   have h9:=congrArg (·[j]?) h8;simp only[Nat.mul_one,List.getElem?_take,if_pos hj,List.getElem?_map,hx,Option.map_some,Array.getElem?_toList]at h9;exact h9
 cases base with
 |none=>
  obtain⟨rfl,rfl⟩:=h.nil rfl;refine(Tryz.slices_Clone_int_nil 0 0 w).mono ?_
  rintro e w' ⟨rfl,rfl⟩
  exact .inl ⟨rfl,rfl,rfl⟩
 |some ad=>
  by_cases hn:0<n
  ·obtain⟨hsp,hcell⟩:=h.cell ad rfl hn
   obtain⟨b,off,sp⟩:=ad;simp only at hsp hcell;subst hsp;have hlen:=h.len;have hlim:=h.lim;refine(Tryz.slices_Clone_int b off n c xs w (by omega) (by omega) (fun j hj=>by rw[hcell j xs[j] (by simp[hj])];simp[List.getD,hj])).mono ?_
   rintro e w' ⟨v,rfl,h1,h2,h3⟩
   exact fin _ w' v _ (by simp) (by rw[<-hlen,List.take_length]) rfl h1 h2 h3
  ·have h0:n=0:=by omega
   subst h0;have hx:xs=[]:=List.length_eq_zero_iff.1 h.len;refine(Tryz.slices_Clone_int_zero ad c w).mono ?_
   rintro e w' ⟨v,rfl,h1,h2,h3⟩
   exact fin _ w' v _ (by simp) (by rw[hx];rfl) rfl h1 h2 h3
theorem IntsAt.below{w w':World}{base:Option Addr}{n c:Nat}{xs:List Int}(h:IntsAt w base n c xs)(hb:∀b,b<w.heap.size->w'.heap[b]?=w.heap[b]?):IntsAt w' base n c xs:=
 ⟨h.len,h.cap,h.lim,h.capm,h.nil,fun ad ha hn=>⟨(h.cell ad ha hn).1,fun j x hx=>by
  have:=(h.cell ad ha hn).2 j x hx;unfold World.cell? at this⊢
  rw[hb _ (h.lt ha hn)];exact this⟩⟩
theorem Z_{w w':World}{b:Nat}{k:Nat}{v:Value}(h:w.cell? ⟨b,k,none⟩=some v)(hb:w'.heap[b]?=w.heap[b]?):w'.cell? ⟨b,k,none⟩=some v:=by
 unfold World.cell? at h⊢;rw[hb];exact h
theorem MM(w:World)(v:Value)(t:TypeId):(w.alloc (.cells #[v] t)).cell? ⟨w.heap.size,0,none⟩=some v:=by
 rw[jW (lM w _)];rfl
set_option maxRecDepth 100000 in
set_option maxHeartbeats 1000000 in
theorem qSZ{w:World}{base:Option Addr}{n c:Nat}{xs:List Int}(h:IntsAt w base n c xs)(v:Int)(hin:xs.contains v=true)(hb:base≠none):
 Calls Tryz.prog 83 #[.slice base n c,.int .i64 v] w fun e w'=>∃blk cap arr ty,e= .returned (.slice (some ⟨blk,0,none⟩) n cap)/\w.heap.size<=blk/\w'.heap[blk]?=some (.cells arr ty (0,0))/\
  cap<=arr.size/\n<=cap/\cap<=maxLen/\(∀(j:Nat) (x:Int),xs[j]?=some x->arr[j]?=some (.int .i64 x))/\Below w.heap.size w w':=by
 go_enter Tryz.func83,Tryz.ntmps83
 go_wp2_with (first
  |(go_at_call 129;refine(Dp (h.below fun b hb=>Below.heap_alloc w _ b hb)).mono ?_;rintro e w2 hcl
    rcases hcl with⟨h1,_⟩|⟨_,g,cap,arr,ty,rfl,g1,g2,g3,g4,g5,g6,g7⟩
    ·exact absurd h1 hb
    rw[dF]at g1;have X:Aside (w.heap.size+1<=g/\w2.heap[g]?=some (.cells arr ty (0,0))/\cap<=arr.size/\n<=cap/\cap<=maxLen/\(∀(j:Nat) (x:Int),xs[j]?=some x->arr[j]?=some (.int .i64 x))):=⟨g1,g2,g3,g4,g5,g6⟩;have cn:w2.cell? ⟨w.heap.size,0,none⟩=some (.int .i64 v):=Z_ (MM w _ _) (g7.block _ (by rw[dF];exact Nat.lt_succ_self _));have B2:Aside (Below w.heap.size w w2):=((Below.refl _ w).alloc (Nat.le_refl _) _).trans (g7.mono (by rw[dF];exact Nat.le_succ _));clear g1 g2 g3 g4 g5 g6 g7)
  |(go_at_call 130;refine(yI (h.below fun b hb=>B2.out.block b hb) v).mono ?_;rintro e w3 ⟨rfl,b3⟩
    have Y:Aside (Below w2.heap.size w2 w3):=b3;clear b3;rw[hin]))
 go_ret
 obtain⟨x1,x2,x3,x4,x5,x6⟩:=X.out;have hg:g<w2.heap.size:=(Array.getElem?_eq_some_iff.1 x2).1;exact⟨g,cap,arr,ty,rfl,by omega,(Y.out.block g hg).trans x2,x3,x4,x5,x6,B2.out.trans (Y.out.mono B2.out.size)⟩
set_option maxRecDepth 100000 in
set_option maxHeartbeats 2000000 in
theorem qMv{w:World}{base:Option Addr}{c:Nat}{xs:List Int}(h:IntsAt w base xs.length c xs)(v:Int)(hin:xs.contains v=false)(hb:base≠none)(hq:aR (fun i=>decide (aE xs i>v)) xs.length 0=none):
 Calls Tryz.prog 83 #[.slice base xs.length c,.int .i64 v] w fun e w'=>∃blk cap arr ty,e= .returned (.slice (some ⟨blk,0,none⟩) (xs.take xs.length++v::xs.drop xs.length).length cap)/\w.heap.size<=blk/\w'.heap[blk]?=some (.cells arr ty (0,0))/\
  cap<=arr.size/\(xs.take xs.length++v::xs.drop xs.length).length<=cap/\cap<=maxLen/\(∀(j:Nat) (x:Int),(xs.take xs.length++v::xs.drop xs.length)[j]?=some x->arr[j]?=some (.int .i64 x))/\Below w.heap.size w w':=by
 have hile:xs.length<=xs.length:=Nat.le_refl _
 go_enter Tryz.func83,Tryz.ntmps83
 go_wp2_with (first
  |(go_at_call 129;refine(Dp (h.below fun b hb=>Below.heap_alloc w _ b hb)).mono ?_;rintro e w2 hcl
    rcases hcl with⟨h1,_⟩|⟨_,g,cap,arr,ty,rfl,g1,g2,g3,g4,g5,g6,g7⟩
    ·exact absurd h1 hb
    rw[dF]at g1;have X:Aside (w.heap.size+1<=g/\w2.heap[g]?=some (.cells arr ty (0,0))/\cap<=arr.size/\xs.length<=cap/\cap<=maxLen/\(∀(j:Nat) (x:Int),xs[j]?=some x->arr[j]?=some (.int .i64 x))):=⟨g1,g2,g3,g4,g5,g6⟩;have Z:Aside (w2.heap[w.heap.size]?=some (.cells #[.int .i64 v] 3 (0,0))):=(g7.block _ (by rw[dF];exact Nat.lt_succ_self _)).trans (lM w _);have cn:w2.cell? ⟨w.heap.size,0,none⟩=some (.int .i64 v):=by rw[jW Z.out];rfl
    have B2:Aside (Below w.heap.size w w2):=((Below.refl _ w).alloc (Nat.le_refl _) _).trans (g7.mono (by rw[dF];exact Nat.le_succ _));clear g1 g2 g3 g4 g5 g6 g7)
  |(go_at_call 130;refine(yI (h.below fun b hb=>B2.out.block b hb) v).mono ?_;rintro e w3 ⟨rfl,b3⟩
    have Y:Aside (Below w2.heap.size w2 w3):=b3;clear b3;rw[hin])
  |(go_at_call 131;refine(Hx (h.below fun b hb=>(Y.out.block b (Nat.lt_of_lt_of_le hb B2.out.size)).trans (B2.out.block b hb)) v w.heap.size 3 ((Y.out.block _ (Array.getElem?_eq_some_iff.1 Z.out).1).trans Z.out) (fun ad ha hn=>by have:=h.lt ha hn;omega)).mono ?_
    rintro e w4 ⟨rfl,o1,o2,o3,o4,o5,cn4⟩
    have V:Aside (w4.os=w3.os/\w4.tape=w3.tape/\w4.output=w3.output/\w3.heap.size<=w4.heap.size/\(∀b,b<w3.heap.size->b≠w.heap.size->w4.heap[b]?=w3.heap[b]?)):=⟨o1,o2,o3,o4,o5⟩;clear o1 o2 o3 o4 o5;rw[hq];simp only[bC])
  |(go_at_call 133
    have gl:g<w2.heap.size:=(Array.getElem?_eq_some_iff.1 X.out.2.1).1;have gl3:g<w3.heap.size:=Nat.lt_of_lt_of_le gl Y.out.size;have gl4:g<w4.heap.size:=Nat.lt_of_lt_of_le gl3 V.out.2.2.2.1;have hg4:w4.heap[g]?=some (.cells arr ty (0,0)):=(V.out.2.2.2.2 g gl3 (by have:=X.out.1;omega)).trans ((Y.out.block g gl).trans X.out.2.1);refine(Kf H7 _ g cap arr ty xs xs.length w4.heap.size 3 v ((Below.heap_alloc w4 _ g gl4).trans hg4) X.out.2.2.1 X.out.2.2.2.1 X.out.2.2.2.2.1 X.out.2.2.2.2.2 h.lim (lM w4 _) (by omega) hile).mono ?_
    rintro e w6 ⟨⟨blk,cap',arr',ty',rfl,i1,i2,i3,i4,i5,i6⟩,p1,p2,p3,p4,p5⟩
    have Q:Aside ((some g=some blk\/(w4.alloc (.cells #[.int .i64 v] 3)).heap.size<=blk)/\w6.heap[blk]?=some (.cells arr' ty' (0,0))/\cap'<=arr'.size/\(xs.take xs.length++v::xs.drop xs.length).length<=cap'/\cap'<=maxLen/\(∀(j:Nat) (x:Int),(xs.take xs.length++v::xs.drop xs.length)[j]?=some x->arr'[j]?=some (.int .i64 x))):=⟨i1,i2,i3,i4,i5,i6⟩;have R:Aside (w6.os=(w4.alloc (.cells #[.int .i64 v] 3)).os/\w6.tape=(w4.alloc (.cells #[.int .i64 v] 3)).tape/\w6.output=(w4.alloc (.cells #[.int .i64 v] 3)).output/\(w4.alloc (.cells #[.int .i64 v] 3)).heap.size<=w6.heap.size/\∀b,b<(w4.alloc (.cells #[.int .i64 v] 3)).heap.size->some g≠some b->w6.heap[b]?=(w4.alloc (.cells #[.int .i64 v] 3)).heap[b]?):=⟨p1,p2,p3,p4,p5⟩;clear i1 i2 i3 i4 i5 i6 p1 p2 p3 p4 p5 hg4))
 go_ret
 obtain⟨x1,x2,_⟩:=X.out;obtain⟨q1,q2,q3,q4,q5,q6⟩:=Q.out;obtain⟨r1,r2,r3,r4,r5⟩:=R.out;obtain⟨v1,v2,v3,v4,v5⟩:=V.out;have s2:=B2.out.size;have s3:=Y.out.size;have b34:Below w.heap.size w3 w4:=⟨v1,v2,v3,v4,fun b hb=>v5 b (by omega) (by omega)⟩;have b45:Below w.heap.size w4 (w4.alloc (.cells #[.int .i64 v] 3)):=(Below.refl _ w4).alloc (by omega) _;have b56:Below w.heap.size (w4.alloc (.cells #[.int .i64 v] 3)) w6:=⟨r1,r2,r3,r4,fun b hb=>r5 b (by rw[dF];omega) (by simp;omega)⟩;refine⟨blk,cap',arr',ty',(by simp<;>omega),?_,q2,q3,q4,q5,q6,((((B2.out.trans (Y.out.mono s2)).trans b34).trans b45).trans b56)⟩;rcases q1 with q1|q1
 ·simp only[Option.some.injEq]at q1;omega
 ·rw[dF]at q1;omega
set_option maxRecDepth 100000 in
set_option maxHeartbeats 2000000 in
theorem TN{w:World}{base:Option Addr}{c:Nat}{xs:List Int}(h:IntsAt w base xs.length c xs)(v:Int)(hin:xs.contains v=false)(hb:base≠none){k:Nat}(hq:aR (fun i=>decide (aE xs i>v)) xs.length 0=some k):
 Calls Tryz.prog 83 #[.slice base xs.length c,.int .i64 v] w fun e w'=>∃blk cap arr ty,e= .returned (.slice (some ⟨blk,0,none⟩) (xs.take k++v::xs.drop k).length cap)/\w.heap.size<=blk/\w'.heap[blk]?=some (.cells arr ty (0,0))/\
  cap<=arr.size/\(xs.take k++v::xs.drop k).length<=cap/\cap<=maxLen/\(∀(j:Nat) (x:Int),(xs.take k++v::xs.drop k)[j]?=some x->arr[j]?=some (.int .i64 x))/\Below w.heap.size w w':=by
 have hile:k<=xs.length:=by have:=(dy _ _ _ _ hq).2.1;omega
 go_enter Tryz.func83,Tryz.ntmps83
 go_wp2_with (first
  |(go_at_call 129;refine(Dp (h.below fun b hb=>Below.heap_alloc w _ b hb)).mono ?_;rintro e w2 hcl
    rcases hcl with⟨h1,_⟩|⟨_,g,cap,arr,ty,rfl,g1,g2,g3,g4,g5,g6,g7⟩
    ·exact absurd h1 hb
    rw[dF]at g1;have X:Aside (w.heap.size+1<=g/\w2.heap[g]?=some (.cells arr ty (0,0))/\cap<=arr.size/\xs.length<=cap/\cap<=maxLen/\(∀(j:Nat) (x:Int),xs[j]?=some x->arr[j]?=some (.int .i64 x))):=⟨g1,g2,g3,g4,g5,g6⟩;have Z:Aside (w2.heap[w.heap.size]?=some (.cells #[.int .i64 v] 3 (0,0))):=(g7.block _ (by rw[dF];exact Nat.lt_succ_self _)).trans (lM w _);have cn:w2.cell? ⟨w.heap.size,0,none⟩=some (.int .i64 v):=by rw[jW Z.out];rfl
    have B2:Aside (Below w.heap.size w w2):=((Below.refl _ w).alloc (Nat.le_refl _) _).trans (g7.mono (by rw[dF];exact Nat.le_succ _));clear g1 g2 g3 g4 g5 g6 g7)
  |(go_at_call 130;refine(yI (h.below fun b hb=>B2.out.block b hb) v).mono ?_;rintro e w3 ⟨rfl,b3⟩
    have Y:Aside (Below w2.heap.size w2 w3):=b3;clear b3;rw[hin])
  |(go_at_call 131;refine(Hx (h.below fun b hb=>(Y.out.block b (Nat.lt_of_lt_of_le hb B2.out.size)).trans (B2.out.block b hb)) v w.heap.size 3 ((Y.out.block _ (Array.getElem?_eq_some_iff.1 Z.out).1).trans Z.out) (fun ad ha hn=>by have:=h.lt ha hn;omega)).mono ?_
    rintro e w4 ⟨rfl,o1,o2,o3,o4,o5,cn4⟩
    have V:Aside (w4.os=w3.os/\w4.tape=w3.tape/\w4.output=w3.output/\w3.heap.size<=w4.heap.size/\(∀b,b<w3.heap.size->b≠w.heap.size->w4.heap[b]?=w3.heap[b]?)):=⟨o1,o2,o3,o4,o5⟩;clear o1 o2 o3 o4 o5;rw[hq];simp only[bC])
  |(go_at_call 133
    have gl:g<w2.heap.size:=(Array.getElem?_eq_some_iff.1 X.out.2.1).1;have gl3:g<w3.heap.size:=Nat.lt_of_lt_of_le gl Y.out.size;have gl4:g<w4.heap.size:=Nat.lt_of_lt_of_le gl3 V.out.2.2.2.1;have hg4:w4.heap[g]?=some (.cells arr ty (0,0)):=(V.out.2.2.2.2 g gl3 (by have:=X.out.1;omega)).trans ((Y.out.block g gl).trans X.out.2.1);refine(Kf H7 _ g cap arr ty xs k w4.heap.size 3 v ((Below.heap_alloc w4 _ g gl4).trans hg4) X.out.2.2.1 X.out.2.2.2.1 X.out.2.2.2.2.1 X.out.2.2.2.2.2 h.lim (lM w4 _) (by omega) hile).mono ?_
    rintro e w6 ⟨⟨blk,cap',arr',ty',rfl,i1,i2,i3,i4,i5,i6⟩,p1,p2,p3,p4,p5⟩
    have Q:Aside ((some g=some blk\/(w4.alloc (.cells #[.int .i64 v] 3)).heap.size<=blk)/\w6.heap[blk]?=some (.cells arr' ty' (0,0))/\cap'<=arr'.size/\(xs.take k++v::xs.drop k).length<=cap'/\cap'<=maxLen/\(∀(j:Nat) (x:Int),(xs.take k++v::xs.drop k)[j]?=some x->arr'[j]?=some (.int .i64 x))):=⟨i1,i2,i3,i4,i5,i6⟩;have R:Aside (w6.os=(w4.alloc (.cells #[.int .i64 v] 3)).os/\w6.tape=(w4.alloc (.cells #[.int .i64 v] 3)).tape/\w6.output=(w4.alloc (.cells #[.int .i64 v] 3)).output/\(w4.alloc (.cells #[.int .i64 v] 3)).heap.size<=w6.heap.size/\∀b,b<(w4.alloc (.cells #[.int .i64 v] 3)).heap.size->some g≠some b->w6.heap[b]?=(w4.alloc (.cells #[.int .i64 v] 3)).heap[b]?):=⟨p1,p2,p3,p4,p5⟩;clear i1 i2 i3 i4 i5 i6 p1 p2 p3 p4 p5 hg4))
 go_ret
 obtain⟨x1,x2,_⟩:=X.out;obtain⟨q1,q2,q3,q4,q5,q6⟩:=Q.out;obtain⟨r1,r2,r3,r4,r5⟩:=R.out;obtain⟨v1,v2,v3,v4,v5⟩:=V.out;have s2:=B2.out.size;have s3:=Y.out.size;have b34:Below w.heap.size w3 w4:=⟨v1,v2,v3,v4,fun b hb=>v5 b (by omega) (by omega)⟩;have b45:Below w.heap.size w4 (w4.alloc (.cells #[.int .i64 v] 3)):=(Below.refl _ w4).alloc (by omega) _;have b56:Below w.heap.size (w4.alloc (.cells #[.int .i64 v] 3)) w6:=⟨r1,r2,r3,r4,fun b hb=>r5 b (by rw[dF];omega) (by simp;omega)⟩;refine⟨blk,cap',arr',ty',(by simp<;>omega),?_,q2,q3,q4,q5,q6,((((B2.out.trans (Y.out.mono s2)).trans b34).trans b45).trans b56)⟩;rcases q1 with q1|q1
 ·simp only[Option.some.injEq]at q1;omega
 ·rw[dF]at q1;omega
set_option maxRecDepth 100000 in
set_option maxHeartbeats 2000000 in
theorem walk_nil{w:World}(v:Int):
 Calls Tryz.prog 83 #[.slice none 0 0,.int .i64 v] w fun e w'=>∃blk cap arr ty,e= .returned (.slice (some ⟨blk,0,none⟩) 1 cap)/\w.heap.size<=blk/\w'.heap[blk]?=some (.cells arr ty (0,0))/\
  cap<=arr.size/\1<=cap/\cap<=maxLen/\(∀(j:Nat) (x:Int),[v][j]?=some x->arr[j]?=some (.int .i64 x))/\Below w.heap.size w w':=by
 have h:IntsAt w none 0 0 []:=⟨rfl,Nat.le_refl _,by omega,Nat.zero_le _,fun _=>⟨rfl,rfl⟩,fun ad ha=>by simp at ha⟩
 go_enter Tryz.func83,Tryz.ntmps83
 go_wp2_with (first
  |(go_at_call 129;refine(Dp (h.below fun b hb=>Below.heap_alloc w _ b hb)).mono ?_;rintro e w2 hcl
    rcases hcl with⟨_,rfl,rfl⟩|⟨h1,_⟩
    rotate_left
    ·exact absurd rfl h1)
  |(go_at_call 130;refine(yI (h.below fun b hb=>Below.heap_alloc w _ b hb) v).mono ?_;rintro e w3 ⟨rfl,b3⟩
    have Y:Aside (Below (w.alloc (.cells #[.int .i64 v] 3)).heap.size (w.alloc (.cells #[.int .i64 v] 3)) w3):=b3;have Z:Aside (w3.heap[w.heap.size]?=some (.cells #[.int .i64 v] 3 (0,0))):=(b3.block _ (by rw[dF];exact Nat.lt_succ_self _)).trans (lM w _);have cn:w3.cell? ⟨w.heap.size,0,none⟩=some (.int .i64 v):=by rw[jW Z.out];rfl
    clear b3;rw[show([]:List Int).contains v=false from rfl])
  |(go_at_call 131;refine(Hx (h.below fun b hb=>(Y.out.block b (by rw[dF];omega)).trans (Below.heap_alloc w _ b hb)) v w.heap.size 3 Z.out (fun ad ha=>by simp at ha)).mono ?_
    rintro e w4 ⟨rfl,o1,o2,o3,o4,o5,cn4⟩
    have V:Aside (w4.os=w3.os/\w4.tape=w3.tape/\w4.output=w3.output/\w3.heap.size<=w4.heap.size/\(∀b,b<w3.heap.size->b≠w.heap.size->w4.heap[b]?=w3.heap[b]?)):=⟨o1,o2,o3,o4,o5⟩;clear o1 o2 o3 o4 o5;rw[show aR (fun i=>decide (aE [] i>v)) ([]:List Int).length 0=none from rfl];simp only[bC])
  |(go_at_call 133
    refine(qB5 H7 _ w4.heap.size v (MM w4 _ _) none).mono ?_
    rintro e w6 ⟨⟨blk,cap',arr',ty',rfl,i1,i2,i3,i4,i5,i6⟩,p1,p2,p3,p4,p5⟩
    have Q:Aside (((none:Option Nat)=some blk\/(w4.alloc (.cells #[.int .i64 v] 3)).heap.size<=blk)/\w6.heap[blk]?=some (.cells arr' ty' (0,0))/\cap'<=arr'.size/\[v].length<=cap'/\cap'<=maxLen/\(∀(j:Nat) (x:Int),[v][j]?=some x->arr'[j]?=some (.int .i64 x))):=⟨i1,i2,i3,i4,i5,i6⟩;have R:Aside (w6.os=(w4.alloc (.cells #[.int .i64 v] 3)).os/\w6.tape=(w4.alloc (.cells #[.int .i64 v] 3)).tape/\w6.output=(w4.alloc (.cells #[.int .i64 v] 3)).output/\(w4.alloc (.cells #[.int .i64 v] 3)).heap.size<=w6.heap.size/\∀b,b<(w4.alloc (.cells #[.int .i64 v] 3)).heap.size->(none:Option Nat)≠some b->w6.heap[b]?=(w4.alloc (.cells #[.int .i64 v] 3)).heap[b]?):=⟨p1,p2,p3,p4,p5⟩;clear i1 i2 i3 i4 i5 i6 p1 p2 p3 p4 p5))
 go_ret
 obtain⟨q1,q2,q3,q4,q5,q6⟩:=Q.out;obtain⟨r1,r2,r3,r4,r5⟩:=R.out;obtain⟨v1,v2,v3,v4,v5⟩:=V.out;have s3:=Y.out.size;rw[dF]at s3;have b12:Below w.heap.size w (w.alloc (.cells #[.int .i64 v] 3)):=(Below.refl _ w).alloc (Nat.le_refl _) _;have b34:Below w.heap.size w3 w4:=⟨v1,v2,v3,v4,fun b hb=>v5 b (by omega) (by omega)⟩;have b45:Below w.heap.size w4 (w4.alloc (.cells #[.int .i64 v] 3)):=(Below.refl _ w4).alloc (by omega) _;have b56:Below w.heap.size (w4.alloc (.cells #[.int .i64 v] 3)) w6:=⟨r1,r2,r3,r4,fun b hb=>r5 b (by rw[dF];omega) (by simp)⟩;refine⟨blk,cap',arr',ty',rfl,?_,q2,q3,q4,q5,q6,((((b12.trans (Y.out.mono (by rw[dF];exact Nat.le_succ _))).trans b34).trans b45).trans b56)⟩;rcases q1 with q1|q1
 ·simp at q1
 ·rw[dF]at q1;omega
theorem RU:Kl Tryz.prog (fid 106):=by
 intro base n c xs v w hn hc hlim hcm hnil hcell;show Calls Tryz.prog 83 _ _ _;have h:IntsAt w base n c xs:=⟨hn,hc,hlim,hcm,hnil,hcell⟩;subst hn;cases base with
 |none=>
  obtain⟨h1,rfl⟩:=hnil rfl;have hx:xs=[]:=List.length_eq_zero_iff.1 h1;subst hx;exact walk_nil v
 |some ad=>
  by_cases hin:xs.contains v=true
  ·have hl:cv xs v=xs:=by unfold cv;rw[if_pos hin]
   rw[hl];exact qSZ h v hin (by simp)
  ·have hin':xs.contains v=false:=by simpa using hin
   cases hq:aR (fun i=>decide (aE xs i>v)) xs.length 0 with
   |none=>
    have hl:cv xs v=xs.take xs.length++v::xs.drop xs.length:=by
     unfold cv lz;rw[if_neg hin,HZ,hq]
    rw[hl];exact qMv h v hin' (by simp) hq
   |some k=>
    have hl:cv xs v=xs.take k++v::xs.drop k:=by
     unfold cv lz;rw[if_neg hin,HZ,hq]
    rw[hl];exact TN h v hin' (by simp) hq
end Go.Proofs.YtpcoohnjllclnaaGreat.VS

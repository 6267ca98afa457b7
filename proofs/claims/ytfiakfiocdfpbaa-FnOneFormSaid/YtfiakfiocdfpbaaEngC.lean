/- The engine, part 5: a call of the program answers what an evaluator of values without memory answers, for the functions whose code is the one that the evaluator is given. -/
import Derived.Test.YtfiakfiocdfpbaaEngE
set_option linter.unusedSimpArgs false
set_option linter.unusedVariables false
namespace Go.Proofs.Ytfiakfiocdfpbaa.VS
open Classical
section
variable {A0 : Ids} {T : List Nat} {F : Id → Prop} {p : Id} {sx : XS} {sv : St}
structure Back (F : Id → Prop) (p : Id) (A0 : Ids) (v' : AV) (B' : Boxs) (r : Res) : Prop where
 fit : v'.fit r.v
 boxes : BoxFit B' r.B
 held : Held F (fun _ => False) r.A (locOwn [(0, v')] B' [(0, r.v)] r.B)
 am : ∀ a, r.A a = true → A0 a = true ∨ Fut p 0 a
theorem Rel.back {k : Nat} (h : Rel A0 T F p k sx sv) {B' Bv' : Boxs} (hb : BoxFit B' Bv') (hbo : ∀ j, (bown B' Bv' j).Sublist (bown sx.B sv.B j)) {v' u : AV} (hf : v'.fit u) {A' : Ids}
  (hnd : (v'.own u).Nodup) (hin : ∀ a, a ∈ v'.own u → A' a = true ∧ ¬ F a ∧ ∀ j, a ∉ bown B' Bv' j) (hA : ∀ a, sv.A a = true → A' a = true) (ham : ∀ a, A' a = true → A0 a = true ∨ Fut p 0 a) :
  Back F p A0 v' B' ⟨u, A', Bv'⟩ := by
 refine ⟨hf, hb, ⟨fun ℓ => ?_, fun ℓ ℓ' a ha ha' => ?_, fun ℓ a ha => ?_, fun a ha => ⟨hA a (h.held.fr a ha).1, id⟩⟩, ham⟩
 ·cases ℓ with
  | reg t => simp only [locOwn, rown_one]; split
             ·exact hnd
             ·simp
  | box j => exact (h.held.nodup (.box j)).sublist (hbo j)
 ·cases ℓ with
  | reg t =>
   simp only [locOwn, rown_one] at ha
   split at ha
   ·rename_i ht; subst ht
    cases ℓ' with
    | reg t' =>
     simp only [locOwn, rown_one] at ha'
     split at ha'
     ·rename_i ht; subst ht; rfl
     ·simp at ha'
    | box j => exact absurd ha' ((hin a ha).2.2 j)
   ·simp at ha
  | box j =>
   cases ℓ' with
   | reg t' =>
    simp only [locOwn, rown_one] at ha'
    split at ha'
    ·exact absurd ha ((hin a ha').2.2 j)
    ·simp at ha'
   | box j' => 
    have := h.held.apart (.box j) (.box j') a ((hbo j).subset ha) ((hbo j').subset ha')
    exact this
 ·cases ℓ with
  | reg t =>
   simp only [locOwn, rown_one] at ha
   split at ha
   ·exact ⟨(hin a ha).1, (hin a ha).2.1, id⟩
   ·simp at ha
  | box j =>
   obtain ⟨q1, q2, _⟩ := h.held.opn (.box j) a ((hbo j).subset ha)
   exact ⟨hA a q1, q2, id⟩
theorem bown_take_sub (B Bv : Boxs) (n j : Nat) : (bown (B.take n) (Bv.take n) j).Sublist (bown B Bv j) := by
 simp only [bown, bget_take]
 by_cases hj : j < n
 ·simp [hj]
 ·simp [hj]
theorem res_fit {k : Nat} (h : Rel A0 T F p k sx sv) {r : VRes} {v : AV} (hr : xresOf sx r = some v) : ∃ u, resOf sv r = some u ∧ v.fit u ∧ ∀ a, a ∈ v.own u → ∃ t, r = .tmp t ∧ T.contains t = true ∧ a ∈ rown sx.r sv.r t := by
 cases r with
 | tmp t =>
  simp only [xresOf] at hr
  obtain ⟨u, h1, h2⟩ := h.regs t v hr
  refine ⟨u, h1, h2, fun a ha => ⟨t, rfl, ?_, ?_⟩⟩
  ·cases ht : T.contains t with
   | true => rfl
   | false =>
    have := h.nl t ht
    unfold rown at this; rw [hr, h1] at this; simp only at this
    rw [this] at ha; simp at ha
  ·unfold rown; rw [hr, h1]; exact ha
 | cell t agg sz =>
  simp only [xresOf] at hr
  split at hr
  ·rename_i i off h1
   obtain ⟨w, h2, rfl⟩ := Option.map_eq_some_iff.1 hr
   obtain ⟨u, cs, ds, h3, h4, _⟩ := loadBox_fit h.boxes h2
   obtain ⟨x, h5, h6⟩ := h.regs t _ h1
   simp only [AV.fit] at h6; subst h6
   exact ⟨u, by simp only [resOf, h5, h3], AV.fit_clr _ _ h4, fun a ha => by rw [AV.own_clr] at ha; simp at ha⟩
  ·simp at hr
theorem ress_fit {k : Nat} (h : Rel A0 T F p k sx sv) : ∀ (rs : List VRes) (vs : List AV), linDistinct T (rs.flatMap VRes.vx) = true → xressOf sx rs = some vs → ∃ us, ressOf sv rs = some us ∧ AV.fits vs us ∧ (AV.owns vs us).Nodup ∧
  (∀ a, a ∈ AV.owns vs us → ∃ t, VX.t t ∈ rs.flatMap VRes.vx ∧ T.contains t = true ∧ a ∈ rown sx.r sv.r t) ∧ (∀ a, a ∈ AV.owns vs us → sv.A a = true ∧ ¬ F a ∧ ∀ j, a ∉ bown sx.B sv.B j)
 | [], vs, _, hx => by simp [xressOf] at hx; subst hx; exact ⟨[], rfl, by simp [AV.fits], by simp [AV.owns], by simp [AV.owns], by simp [AV.owns]⟩
 | r :: rs, vs, hd, hx => by
  simp only [xressOf] at hx
  obtain ⟨v, h1, h2⟩ := Option.bind_eq_some_iff.1 hx
  obtain ⟨vs', h3, rfl⟩ := Option.map_eq_some_iff.1 h2
  obtain ⟨u, h4, h5, h6⟩ := res_fit h h1
  have hd2 : linDistinct T (rs.flatMap VRes.vx) = true := by
   cases r with
   | tmp t => exact (distinct_cons (by simpa [VRes.vx] using hd)).2
   | cell t a s => simpa [VRes.vx] using hd
  obtain ⟨us, g1, g2, g3, g4, g5⟩ := ress_fit h rs vs' hd2 h3
  refine ⟨u :: us, by simp [ressOf, h4, g1], by simp only [AV.fits]; exact ⟨_, _, rfl, h5, g2⟩, ?_, fun a ha => ?_, fun a ha => ?_⟩
  ·simp only [AV.owns]
   rw [List.nodup_append]
   refine ⟨?_, g3, fun a ha b hb he => ?_⟩
   ·cases r with
    | tmp t =>
     have := h.held.nodup (.reg t)
     simp only [locOwn, rown] at this
     simp only [xresOf] at h1; simp only [resOf] at h4
     rw [h1, h4] at this; exact this
    | cell t ag s =>
     have : v.own u = [] := List.eq_nil_iff_forall_not_mem.2 fun a ha => by obtain ⟨t', h7, _⟩ := h6 a ha; simp at h7
     rw [this]; simp
   ·subst he
    obtain ⟨t, rfl, ht, h7⟩ := h6 a ha
    obtain ⟨t', h8, ht', h9⟩ := g4 a hb
    have := h.held.apart (.reg t) (.reg t') a h7 h9
    simp at this; subst this
    exact (distinct_cons (by simpa [VRes.vx] using hd)).1 t rfl ht h8
  ·simp only [AV.owns, List.mem_append] at ha
   rcases ha with ha | ha
   ·obtain ⟨t, rfl, ht, h7⟩ := h6 a ha
    exact ⟨t, by simp [VRes.vx], ht, h7⟩
   ·obtain ⟨t, h8, h9⟩ := g4 a ha
    exact ⟨t, by simp only [List.flatMap_cons, List.mem_append]; exact .inr h8, h9⟩
  ·simp only [AV.owns, List.mem_append] at ha
   rcases ha with ha | ha
   ·obtain ⟨t, rfl, ht, h7⟩ := h6 a ha
    obtain ⟨q1, q2, q3⟩ := h.held.opn (.reg t) a h7
    exact ⟨q1, q2, fun j hj => by have := h.held.apart (.reg t) (.box j) a h7 hj; simp at this⟩
   ·exact g5 a ha
theorem xfinishMany_ok (h : Rel A0 T F p sv.c sx sv) {L : Nat} {rs : List VRes} (hd : linDistinct T (rs.flatMap VRes.vx) = true) {v' : AV} {B' : Boxs} (hx : xfinishMany L sx rs = some (v', B')) :
  ∃ r, finish L p sv rs = some r ∧ Back F p A0 v' B' r := by
 have ham : ∀ a, sv.A a = true → A0 a = true ∨ Fut p 0 a := fun a ha => (h.am a ha).2
 have many : ∀ vs ds, xressOf sx rs = some vs → datas vs = some ds → ∃ us es, ressOf sv rs = some us ∧ AV.fits vs us ∧ datas us = some es ∧ us = es.map .d ∧ Back F p A0 (.d (.tup ds)) (sx.B.take L) ⟨.d (.tup es), sv.A, sv.B.take L⟩ := by
  intro vs ds h1 h2
  obtain ⟨us, g1, g2, g3, g4, g5⟩ := ress_fit h rs vs hd h1
  obtain ⟨es, e1, e2, e3⟩ := fits_datas h2 g2
  have hus : us = es.map .d := by
   clear g1 g2 g3 g4 g5 e2 e3
   induction us generalizing es with
   | nil => simp [datas] at e1; subst e1; rfl
   | cons u us ih =>
    cases u with
    | d d =>
     simp only [datas] at e1
     obtain ⟨es', h3, rfl⟩ := Option.map_eq_some_iff.1 e1
     rw [ih es' h3]; rfl
    | _ => simp [datas] at e1
  refine ⟨us, es, g1, g2, e1, hus, h.back (h.boxes.take L) (bown_take_sub _ _ L) (by simp only [AV.fit, DV.fit]; exact ⟨_, rfl, _, rfl, e2⟩) (by simp only [AV.own, DV.own]; rw [← e3]; exact g3) (fun a ha => ?_) (fun a ha => ha) ham⟩
  simp only [AV.own, DV.own] at ha
  rw [← e3] at ha
  obtain ⟨q1, q2, q3⟩ := g5 a ha
  exact ⟨q1, q2, fun j hj => q3 j ((bown_take_sub _ _ L j).subset hj)⟩
 unfold xfinishMany at hx
 split at hx
 ·rename_i v h1
  simp at hx; obtain ⟨rfl, rfl⟩ := hx
  obtain ⟨us, g1, g2, g3, g4, g5⟩ := ress_fit h rs _ hd h1
  simp only [AV.fits] at g2
  obtain ⟨u, _, rfl, hfu, rfl⟩ := g2
  simp only [AV.fit] at hfu
  obtain ⟨y, rfl, hfy⟩ := hfu
  simp only [AV.owns, List.append_nil] at g3 g5
  refine ⟨_, by unfold finish; rw [g1], h.back (h.boxes.take L) (bown_take_sub _ _ L) (by simp only [AV.fit]; exact ⟨_, rfl, hfy⟩) g3 (fun a ha => ?_) (fun a ha => ha) ham⟩
  obtain ⟨q1, q2, q3⟩ := g5 a ha
  exact ⟨q1, q2, fun j hj => q3 j ((bown_take_sub _ _ L j).subset hj)⟩
 ·rename_i i off h1
  simp at hx; obtain ⟨rfl, rfl⟩ := hx
  obtain ⟨us, g1, g2, g3, g4, g5⟩ := ress_fit h rs _ hd h1
  simp only [AV.fits] at g2
  obtain ⟨u, _, rfl, hfu, rfl⟩ := g2
  simp only [AV.fit] at hfu
  subst hfu
  exact ⟨_, by unfold finish; rw [g1], h.back h.boxes (fun j => List.Sublist.refl _) (by simp [AV.fit]) (by simp [AV.own]) (by simp [AV.own]) (fun a ha => ha) ham⟩
 ·rename_i id agg i sz n h1
  split at hx
  ·rename_i hc
   obtain ⟨cs, h2, h3⟩ := Option.bind_eq_some_iff.1 hx
   obtain ⟨bs, h4, h5⟩ := Option.bind_eq_some_iff.1 h2
   split at h3
   ·rename_i hlen
    obtain ⟨xs, h6, h7⟩ := Option.map_eq_some_iff.1 h3
    simp at h7; obtain ⟨rfl, rfl⟩ := h7
    obtain ⟨us, g1, g2, g3, g4, g5⟩ := ress_fit h rs _ hd h1
    simp only [AV.fits] at g2
    obtain ⟨u, _, rfl, hfu, rfl⟩ := g2
    simp only [AV.fit] at hfu
    obtain ⟨id', rfl⟩ := hfu
    obtain ⟨ds, q1, q2⟩ := h.boxes.get h4
    obtain ⟨es, q3, q4, q5⟩ := fits_datas h5 q2
    obtain ⟨ys, q6, q7, q8, q9, q10⟩ := chunks_fit agg sz n cs es xs q4 h6
    have hbo : bown sx.B sv.B i = DV.owns cs es := by unfold bown; rw [h4, q1]; exact q5
    have hnb : ∀ a, a ∈ DV.owns xs ys → a ∈ locOwn sx.r sx.B sv.r sv.B (.box i) := fun a ha => by simp only [locOwn]; rw [hbo]; exact q9.subset ha
    have hnf : ¬ sv.A (sv.c :: p) = true := fun ha => (h.am _ ha).1 (Fut.self p _)
    refine ⟨⟨.d (.sl (.own (sv.c :: p) sz) ys), Ids.add (sv.c :: p) sv.A, sv.B.take L⟩, ?_, ?_⟩
    ·unfold finish
     rw [g1]
     simp only
     rw [if_pos hc, q1]
     simp only [Option.bind_some, q3]
     rw [if_pos (by rw [← DV.fits_len q4]; exact hlen), q6]; rfl
    ·refine h.back (h.boxes.take L) (bown_take_sub _ _ L) ?_ ?_ (fun a ha => ?_) (fun a ha => by simp [Ids.add, ha]) (fun a ha => ?_)
     ·simp only [AV.fit, DV.fit]
      refine ⟨_, rfl, _, _, rfl, q7, .inr ⟨rfl, ?_⟩⟩
      by_cases hn : xs.length = 0
      ·exact .inl ⟨hn, .inr ⟨_, _, rfl⟩⟩
      ·exact .inr ⟨hn, _, _, rfl, q8⟩
     ·simp only [AV.own, DV.own]
      rw [List.nodup_append]
      refine ⟨by split <;> simp [Tag.ids], ((h.held.nodup (.box i)).sublist (by simp only [locOwn]; rw [hbo]; exact q9)), fun a ha b hb he => ?_⟩
      split at ha <;> simp [Tag.ids] at ha
      subst ha; subst he
      exact hnf (h.held.opn _ _ (hnb _ hb)).1
     ·simp only [AV.own, DV.own, List.mem_append] at ha
      rcases ha with ha | ha
      ·split at ha <;> simp [Tag.ids] at ha
       subst ha
       refine ⟨by simp [Ids.add], fun hF => hnf (h.held.fr _ hF).1, fun j hj => ?_⟩
       exact hnf (h.held.opn (.box j) _ ((bown_take_sub _ _ L j).subset hj)).1
      ·obtain ⟨z1, z2, _⟩ := h.held.opn _ a (hnb a ha)
       refine ⟨by simp [Ids.add, z1], z2, fun j hj => ?_⟩
       have := h.held.apart (.box i) (.box j) a (hnb a ha) ((bown_take_sub _ _ L j).subset hj)
       simp at this; subst this
       simp only [bown, bget_take] at hj
       rw [if_neg (by omega)] at hj
       simp at hj
     ·simp only [Ids.add, Bool.or_eq_true, decide_eq_true_eq] at ha
      rcases ha with rfl | ha
      ·exact .inr ((Fut.self p _).le (Nat.zero_le _))
      ·exact ham a ha
   ·simp at h3
  ·simp at hx
 ·simp at hx
 ·rename_i vs hn1 hn2 hn3 hn4 h1
  obtain ⟨ds, h2, h3⟩ := Option.map_eq_some_iff.1 hx
  simp at h3; obtain ⟨rfl, rfl⟩ := h3
  obtain ⟨us, es, g1, g2, g3, g4, g5⟩ := many vs ds h1 h2
  refine ⟨_, ?_, g5⟩
  unfold finish
  rw [g1]
  match us, g2 with
  | [], _ => simp at g4; simp [datas] at g3; subst g3; rfl
  | [u], g2 =>
   have hl := AV.fits_len g2
   match vs, hl with
   | [x], _ => exact absurd rfl (hn4 x)
  | u :: u' :: us, _ => simp only [g3, Option.map_some]
 ·simp at hx
theorem xfinish_ok (h : Rel A0 T F p sv.c sx sv) {L : Nat} {rs : List VRes} (hd : linDistinct T (rs.flatMap VRes.vx) = true) {v' : AV} {B' : Boxs} (hx : xfinish L sx rs = some (v', B')) :
  ∃ r, finish L p sv rs = some r ∧ Back F p A0 v' B' r := by
 unfold xfinish at hx
 split at hx
 ·rename_i t agg sz
  unfold xcellRes at hx
  split at hx
  ·rename_i i off h1
   split at hx
   ·rename_i hL
    split at hx
    ·rename_i v h2
     simp at hx; obtain ⟨rfl, rfl⟩ := hx
     obtain ⟨u, cs, ds, h3, h4, h5, h6, h7, h8, h9⟩ := loadBox_fit h.boxes h2
     obtain ⟨x, g1, g2⟩ := h.regs t _ h1
     simp only [AV.fit] at g2; subst g2
     have h4' := h4
     simp only [AV.fit] at h4'
     obtain ⟨y, rfl, hy⟩ := h4'
     have hbo : bown sx.B sv.B i = AV.owns cs ds := by unfold bown; rw [h5, h6]
     have hsub : ((AV.d v).own (.d y)).Sublist (AV.owns cs ds) := by
      rw [h8, AV.owns_cut (AV.fits_len h7) off]
      refine List.Sublist.trans ?_ (List.sublist_append_right _ _)
      rw [AV.owns_cut (a := cs.drop off) (c := ds.drop off) (by simp [AV.fits_len h7]) (if agg = true then sz else 1)]
      exact List.sublist_append_left _ _
     refine ⟨_, by unfold finish; simp only [ressOf, resOf, g1, h3, Option.bind_some, Option.map_some], h.back (h.boxes.take L) (bown_take_sub _ _ L) h4 ((h.held.nodup (.box i)).sublist (by simp only [locOwn]; rw [hbo]; exact hsub)) (fun a ha => ?_) (fun a ha => ha) (fun a ha => (h.am a ha).2)⟩
     have ha2 : a ∈ locOwn sx.r sx.B sv.r sv.B (.box i) := by simp only [locOwn]; rw [hbo]; exact hsub.subset ha
     obtain ⟨q1, q2, _⟩ := h.held.opn _ a ha2
     refine ⟨q1, q2, fun j hj => ?_⟩
     have := h.held.apart (.box i) (.box j) a ha2 ((bown_take_sub _ _ L j).subset hj)
     simp at this; subst this
     simp only [bown, bget_take] at hj
     rw [if_neg (by omega)] at hj
     simp at hj
    ·simp at hx
   ·simp at hx
  ·simp at hx
 ·rename_i t1 g1 z1 t2 g2 z2 t3
  unfold xcell2 at hx
  split at hx
  ·rename_i i1 o1 i2 o2 b e1 e2 e3
   split at hx
   ·rename_i hL
    obtain ⟨hL1, hL2, hne⟩ := hL
    split at hx
    ·rename_i v1 v2 l1 l2
     simp at hx; obtain ⟨rfl, rfl⟩ := hx
     have one : ∀ (t i off : Nat) (g : Bool) (z : Nat) (v : DV), lk sx.r t = some (.ptr i off) → loadBox sx.B g z i off = some (.d v) → ∃ y, resOf sv (.cell t g z) = some (.d y) ∧ v.fit y ∧ (v.own y).Sublist (bown sx.B sv.B i) := by
      intro t i off g z v q1 q2
      obtain ⟨u, cs, ds, h3, h4, h5, h6, h7, h8, h9⟩ := loadBox_fit h.boxes q2
      obtain ⟨x, r1, r2⟩ := h.regs t _ q1
      simp only [AV.fit] at r2; subst r2
      have h4' := h4
      simp only [AV.fit] at h4'
      obtain ⟨y, rfl, hy⟩ := h4'
      have hbo : bown sx.B sv.B i = AV.owns cs ds := by unfold bown; rw [h5, h6]
      have hsub : ((AV.d v).own (.d y)).Sublist (AV.owns cs ds) := by
       rw [h8, AV.owns_cut (AV.fits_len h7) off]
       refine List.Sublist.trans ?_ (List.sublist_append_right _ _)
       rw [AV.owns_cut (a := cs.drop off) (c := ds.drop off) (by simp [AV.fits_len h7]) (if g = true then z else 1)]
       exact List.sublist_append_left _ _
      exact ⟨y, by simp only [resOf, r1, h3], hy, by rw [hbo]; exact hsub⟩
     obtain ⟨y1, a1, a2, a3⟩ := one t1 i1 o1 g1 z1 v1 e1 l1
     obtain ⟨y2, b1, b2, b3⟩ := one t2 i2 o2 g2 z2 v2 e2 l2
     obtain ⟨x, c1, c2⟩ := h.regs t3 _ e3
     simp only [AV.fit] at c2
     obtain ⟨y3, rfl, c3⟩ := c2
     have hy3 : y3 = .bool b := by simpa only [DV.fit] using c3
     subst hy3
     have hown : DV.owns [v1, v2, .bool b] [y1, y2, .bool b] = v1.own y1 ++ (v2.own y2 ++ []) := by simp only [DV.owns, DV.own, List.append_nil]
     have good : ∀ i a, L ≤ i → a ∈ bown sx.B sv.B i → sv.A a = true ∧ ¬ F a ∧ ∀ j, a ∉ bown (sx.B.take L) (sv.B.take L) j := fun i a hi ha => by
      have ha2 : a ∈ locOwn sx.r sx.B sv.r sv.B (.box i) := ha
      obtain ⟨q1, q2, _⟩ := h.held.opn _ a ha2
      refine ⟨q1, q2, fun j hj => ?_⟩
      have := h.held.apart (.box i) (.box j) a ha2 ((bown_take_sub _ _ L j).subset hj)
      simp at this; subst this
      simp only [bown, bget_take] at hj
      rw [if_neg (by omega)] at hj
      simp at hj
     have hr3 : resOf sv (.tmp t3) = some (.d (.bool b)) := c1
     refine ⟨⟨.d (.tup [y1, y2, .bool b]), sv.A, sv.B.take L⟩, by unfold finish; simp only [ressOf, a1, b1, hr3, Option.bind_some, Option.map_some, datas], h.back (h.boxes.take L) (bown_take_sub _ _ L) ?_ ?_ (fun a ha => ?_) (fun a ha => ha) (fun a ha => (h.am a ha).2)⟩
     ·simp only [AV.fit, DV.fit, DV.fits]
      exact ⟨_, rfl, _, rfl, _, _, rfl, a2, _, _, rfl, b2, _, _, rfl, rfl, rfl⟩
     ·simp only [AV.own, DV.own, hown, List.append_nil]
      rw [List.nodup_append]
      refine ⟨(h.held.nodup (.box i1)).sublist a3, (h.held.nodup (.box i2)).sublist b3, fun q hq q' hq' he => ?_⟩
      subst he
      have := h.held.apart (.box i1) (.box i2) q (a3.subset hq) (b3.subset hq')
      simp at this; exact hne this
     ·simp only [AV.own, DV.own, hown, List.append_nil, List.mem_append] at ha
      rcases ha with ha | ha
      ·exact good i1 a hL1 (a3.subset ha)
      ·exact good i2 a hL2 (b3.subset ha)
    ·simp at hx
   ·simp at hx
  ·simp at hx
 ·exact xfinishMany_ok h hd hx
theorem flat_fit {x v : DV} (h : x.fit v) : v.flat = x.flat := by
 cases x <;> simp only [DV.fit] at h
 case agg cs => obtain ⟨ds, rfl, h1⟩ := h; rfl
 case sl g xs =>
  obtain ⟨g', ys, rfl, h1, h2⟩ := h
  cases xs with
  | nil => simp only [DV.fits] at h1; subst h1; rfl
  | cons x r => simp only [DV.fits] at h1; obtain ⟨y, ys', rfl, _, _⟩ := h1; rfl
 case tup cs => obtain ⟨ds, rfl, h1⟩ := h; rfl
 all_goals subst h; rfl
theorem specAt_fit {sx : XS} {sv : St} {k : Nat} (h : Rel A0 T F p k sx sv) {y : DV × DV} (hy : xspecAt sx = some y) :
  ∃ y', specAt sv = some y' ∧ y.1.fit y'.1 ∧ y.2.fit y'.2 ∧ y.1.own y'.1 = [] ∧ y.2.own y'.2 = [] := by
 unfold xspecAt at hy
 split at hy
 ·rename_i x0 x1 x2 z0 z1 z2 e1 e2 e3
  split at hy
  ·rename_i hc
   simp only [Option.some.injEq] at hy; subst hy
   obtain ⟨v3, g1, g2⟩ := h.regs 3 _ e1
   obtain ⟨v4, g3, g4⟩ := h.regs 4 _ e2
   simp only [AV.fit] at g2 g4; subst g2; subst g4
   have hb := h.boxes
   rw [e3] at hb
   obtain ⟨c0, b1, b2⟩ := (hb.2 0).2 _ rfl
   obtain ⟨c1, b3, b4⟩ := (hb.2 1).2 _ rfl
   simp only [AV.fits, AV.fit] at b2 b4
   obtain ⟨_, _, rfl, ⟨w0, rfl, f0⟩, _, _, rfl, ⟨w1, rfl, f1⟩, w2, _, rfl, _, rfl⟩ := b2
   obtain ⟨_, _, rfl, ⟨u0, rfl, q0⟩, _, _, rfl, ⟨u1, rfl, q1⟩, _, _, rfl, ⟨u2, rfl, q2⟩, rfl⟩ := b4
   have hB : sv.B = [some [.d w0, .d w1, w2], some [.d u0, .d u1, .d u2]] := by
    have hl := hb.1
    match hs : sv.B, hl with
    | [m, n], _ =>
     rw [hs] at b1 b3
     simp at b1 b3; subst b1; subst b3; rfl
   refine ⟨(w0, w1), ?_, DV.fit_clr _ _ f0, DV.fit_clr _ _ f1, DV.own_clr _ _, DV.own_clr _ _⟩
   unfold specAt
   rw [g1, g3, hB]
   simp only
   rw [flat_fit f0, flat_fit f1, flat_fit q0, flat_fit q1, flat_fit q2, DV.fit_isCell f0, DV.fit_isCell f1, if_pos hc]
  ·simp at hy
 ·simp at hy
theorem fits_flatCells : ∀ {xs vs : List DV}, DV.fits xs vs → DV.fits (xs.flatMap DV.cells) (vs.flatMap DV.cells) ∧ DV.owns (xs.flatMap DV.cells) (vs.flatMap DV.cells) = DV.owns xs vs
 | [], vs, h => by simp only [DV.fits] at h; subst h; simp [DV.fits, DV.owns]
 | x :: xs, vs, h => by
  simp only [DV.fits] at h
  obtain ⟨v, vs, rfl, h1, h2⟩ := h
  obtain ⟨q1, q2⟩ := fits_flatCells h2
  simp only [List.flatMap_cons]
  exact ⟨DV.fits_append (DV.fit_cells h1) q1, by rw [DV.owns_append (DV.fits_len (DV.fit_cells h1)), DV.own_cells h1, q2]; simp only [DV.owns]⟩
theorem xsort_ok {X : XCaller} {V : Caller} {lin : Nat → List Nat} (href : CallRef X V lin) {sf : SFn} {A : Ids} {a : Id} {sz : Nat} {x y : DV} {xr yr : List DV} {q : Id}
  (h1 : x.fit y) (h2 : DV.fits xr yr) (hA : ∀ b, b ∈ a :: DV.owns (x :: xr) (y :: yr) → A b = true ∧ ¬ Fut q 0 b) (hnd : (a :: DV.owns (x :: xr) (y :: yr)).Nodup)
  (hsz : ∀ e : DV, e ∈ y :: yr → e.cells.length = sz) {r : List DV} (hx : xsort X sf x xr = some r) :
  ∃ r' A1, sortV V q sf A a y yr = some (r', Ids.add a A1) ∧ DV.fits r r' ∧ r.length = xr.length + 1 ∧ (∀ e : DV, e ∈ r' → e.cells.length = sz) ∧ (a :: DV.owns r r').Nodup ∧ (∀ b, b ∈ DV.owns r r' → A1 b = true) ∧ (∀ b, A1 b = true → b ∈ DV.owns (x :: xr) (y :: yr) ∨ Fut q 0 b) := by
 unfold xsort at hx
 split at hx
 ·rename_i hu
  have hf : DV.fits (x :: xr) (y :: yr) := by simp only [DV.fits]; exact ⟨_, _, rfl, h1, h2⟩
  obtain ⟨l, hl1, hl2⟩ := allUs_names _ _ hf hu
  obtain ⟨c1, c2⟩ := fits_flatCells hf
  rw [List.nodup_cons] at hnd
  split at hx
  ·rename_i v cs hcall
   obtain ⟨es, d1, hx⟩ := Option.bind_eq_some_iff.1 hx
   split at hx
   ·rename_i hlen
    have hfa : AV.fits [AV.tsl true 0 x.cells.length (xr.length + 1), .fn sf.cmp []] [AV.tsl true 0 y.cells.length (yr.length + 1), .fn sf.cmp []] := by
     simp only [AV.fits, AV.fit]
     rw [DV.fit_clen h1, ← DV.fits_len h2]
     exact ⟨_, _, rfl, rfl, _, _, rfl, ⟨_, rfl, rfl, by simp [AV.owns]⟩, rfl⟩
    have hre : ∀ j, rown (argRegs 0 [AV.tsl true 0 x.cells.length (xr.length + 1), .fn sf.cmp []]) (argRegs 0 [AV.tsl true 0 y.cells.length (yr.length + 1), .fn sf.cmp []]) j = [] := by
     intro j
     rw [rown_args]
     match j with
     | 0 => simp [AV.own]
     | 1 => simp [AV.own]
     | j + 2 => simp
    have hbx : ∀ j, bown [some (((x :: xr).flatMap DV.cells).map AV.d)] [some (((y :: yr).flatMap DV.cells).map AV.d)] j = if j = 0 then DV.owns (x :: xr) (y :: yr) else [] := by
     intro j
     unfold bown bget
     match j with
     | 0 => simp only [List.getElem?_cons_zero, if_true]; show AV.owns _ _ = _; rw [AV.owns_d, c2]
     | j + 1 => simp
    have hlo : ∀ ℓ b, b ∈ locOwn (argRegs 0 [AV.tsl true 0 x.cells.length (xr.length + 1), .fn sf.cmp []]) [some (((x :: xr).flatMap DV.cells).map AV.d)] (argRegs 0 [AV.tsl true 0 y.cells.length (yr.length + 1), .fn sf.cmp []]) [some (((y :: yr).flatMap DV.cells).map AV.d)] ℓ → ℓ = .box 0 ∧ b ∈ DV.owns (x :: xr) (y :: yr) := by
     intro ℓ b hb
     cases ℓ with
     | reg t => simp only [locOwn, hre] at hb; simp at hb
     | box j =>
      simp only [locOwn, hbx] at hb
      split at hb
      ·rename_i hj; subst hj; exact ⟨rfl, hb⟩
      ·simp at hb
    obtain ⟨u, Bv', A1, hV, _, hbf, hh, hnm⟩ := href _ _ _ _ _ hcall q _ [some (((y :: yr).flatMap DV.cells).map AV.d)] (fun b => l.contains b) (fun _ => False) hfa
     ⟨rfl, fun i => by
      match i with
      | 0 => exact ⟨by simp, fun cs hc => by simp at hc; subst hc; exact ⟨_, rfl, by have := AV.fits_d c1; simpa using this⟩⟩
      | i + 1 => exact ⟨by simp, fun cs hc => by simp at hc⟩⟩
     ⟨fun ℓ => by
      cases ℓ with
      | reg t => simp only [locOwn, hre]; simp
      | box j => simp only [locOwn, hbx]; split
                 ·exact hnd.2
                 ·simp,
      fun ℓ ℓ' b hb hb' => by rw [(hlo ℓ b hb).1, (hlo ℓ' b hb').1],
      fun ℓ b hb => ⟨by simpa using hl2.mem_iff.2 (hlo ℓ b hb).2, id, (hA b (List.mem_cons_of_mem _ (hlo ℓ b hb).2)).2⟩, fun b hb => by simp at hb⟩
     (fun j _ => hre j) (fun b hb => by
      have : b ∈ l := by simpa using hb
      exact (hA b (List.mem_cons_of_mem _ (hl2.mem_iff.1 this))).2)
    obtain ⟨ds, e1, e2⟩ := (hbf.2 0).2 cs rfl
    have hBv : Bv' = [some ds] := by
     have hl := hbf.1
     match Bv', hl with
     | [m], _ => simp at e1; subst e1; rfl
    subst hBv
    obtain ⟨es', d2, d3, d4⟩ := fits_datas d1 e2
    obtain ⟨r', k1, k2, k3, k4, k5⟩ := chunks_fit _ _ _ _ _ _ d3 hx
    have hown : ∀ b, b ∈ DV.owns r r' → A1 b = true := fun b hb => (hh.opn (.box 0) b (by simp only [locOwn, bown, bget]; simp only [List.getElem?_cons_zero]; show b ∈ AV.owns _ _; rw [d4]; exact k4.subset hb)).1
    have hnd' : (DV.owns r r').Nodup := by
     have := hh.nodup (.box 0)
     simp only [locOwn, bown, bget, List.getElem?_cons_zero] at this
     have h' : (AV.owns cs ds).Nodup := this
     rw [d4] at h'
     exact h'.sublist k4
    have hA1 : ∀ b, A1 b = true → b ∈ DV.owns (x :: xr) (y :: yr) ∨ Fut q 0 b := fun b hb => (hnm b hb).imp_left fun h => hl2.mem_iff.1 (by simpa using h)
    refine ⟨r', A1, ?_, k2, k5, fun e he => by rw [k3 e he, ← DV.fit_clen h1]; exact hsz y (by simp), ?_, hown, hA1⟩
    ·unfold sortV
     rw [hl1, Option.bind_some, if_pos ⟨(hA a (by simp)).1, List.all_eq_true.2 fun b hb => (hA b (List.mem_cons_of_mem _ (hl2.mem_iff.1 hb))).1, by
      have : ¬ a ∈ l := fun hm => hnd.1 (hl2.mem_iff.1 hm)
      simpa using this⟩, hV]
     simp only [d2, Option.bind_some]
     rw [DV.fit_clen h1, ← DV.fits_len h2, if_pos (by rw [← DV.fits_len d3]; exact hlen), k1]; rfl
    ·rw [List.nodup_cons]
     refine ⟨fun hm => ?_, hnd'⟩
     rcases hA1 a (hown a hm) with h3 | h3
     ·exact hnd.1 h3
     ·exact (hA a (by simp)).2 h3
   ·simp at hx
  ·simp at hx
 ·simp at hx
theorem xspec_ok {X : XCaller} {V : Caller} {lin : Nat → List Nat} (href : CallRef X V lin) {T : List Nat} {n : Nat} {sf : SFn} {p : Id} {ds es : List DV} (hf : DV.fits ds es)
  (hlin1 : sf.pre.linOK T = true) (hlin2 : sf.rest.linOK T = true) (hlin3 : linDistinct T (sf.results.flatMap VRes.vx) = true)
  (hz : ∀ j, rown (argRegs 0 (ds.map .d)) (argRegs 0 (es.map .d)) j = []) {v : DV} (hx : xspec X lin T n sf ds = some v) :
  ∃ u A1, specV V n p sf es = some (u, A1) ∧ v.fit u ∧ (v.own u).Nodup ∧ (∀ a, a ∈ v.own u → A1 a = true) ∧ ∀ a, A1 a = true → Fut p 0 a := by
 unfold xspec at hx
 split at hx
 ·simp at hx
 rename_i hlen
 have hvf := AV.fits_d hf
 have hloc : ∀ ℓ, locOwn (argRegs 0 (ds.map AV.d)) [] (argRegs 0 (es.map AV.d)) [] ℓ = [] := by
  intro ℓ; cases ℓ with
  | reg t => exact hz t
  | box j => simp [locOwn, bown, bget]
 have h0 : Rel Ids.none T (fun _ => False) p (⟨argRegs 0 (es.map .d), [], Ids.none, 0⟩ : St).c ⟨argRegs 0 (ds.map .d), []⟩ ⟨argRegs 0 (es.map .d), [], Ids.none, 0⟩ := by
  refine ⟨fun t x ht => ?_, ⟨rfl, by simp⟩, ⟨fun ℓ => by rw [hloc]; simp, fun ℓ ℓ' a ha => by rw [hloc] at ha; simp at ha, fun ℓ a ha => by rw [hloc] at ha; simp at ha, fun a ha => by simp at ha⟩, fun j _ => hz j, fun t ht => ?_, fun a ha => by simp [Ids.none] at ha⟩
  ·simp only [lk_args] at ht ⊢
   simp only [Nat.zero_le, if_true, Nat.sub_zero] at ht ⊢
   exact AV.fits_get hvf ht
  ·simp only [lk_args] at ht ⊢
   simp only [Nat.zero_le, if_true, Nat.sub_zero] at ht ⊢
   rw [List.getElem?_eq_none_iff] at ht ⊢
   have := AV.fits_len hvf
   omega
 obtain ⟨⟨e, s1⟩, h1, h2⟩ := Option.bind_eq_some_iff.1 hx
 obtain ⟨v1, h3, h4⟩ := xCode_ok href n sf.pre hlin1 _ _ _ _ h0 h1
 have hlen' : ¬ es.length ≠ sf.np := by rw [← DV.fits_len hf]; exact hlen
 have hrest : ∀ {e : Ex}, (e = .normal) → ((xCode X lin T n sf.rest s1).bind fun r2 => match r2.1 with
    | .exit _ => none
    | _ => (xfinish 0 r2.2 sf.results).bind fun q => match q.1 with
     | .d v => some v
     | _ => none) = some v → ∃ u A1, ((evCode V p n sf.rest v1).bind fun r2 => match r2.1 with
    | .exit _ => none
    | _ => (finish 0 p r2.2 sf.results).bind fun q => match q.v with
     | .d v => some (v, q.A)
     | _ => none) = some (u, A1) ∧ v.fit u ∧ (v.own u).Nodup ∧ (∀ a, a ∈ v.own u → A1 a = true) ∧ ∀ a, A1 a = true → Fut p 0 a := by
  intro _ _ hr
  obtain ⟨⟨e2, s2⟩, r1, r2⟩ := Option.bind_eq_some_iff.1 hr
  obtain ⟨v2, r3, r4⟩ := xCode_ok href n sf.rest hlin2 _ _ _ _ h4 r1
  have key : ((xfinish 0 s2 sf.results).bind fun q => match q.1 with
     | .d v => some v
     | _ => none) = some v → ∃ u A1, ((finish 0 p v2 sf.results).bind fun q => match q.v with
     | .d v => some (v, q.A)
     | _ => none) = some (u, A1) ∧ v.fit u ∧ (v.own u).Nodup ∧ (∀ a, a ∈ v.own u → A1 a = true) ∧ ∀ a, A1 a = true → Fut p 0 a := by
   intro hk
   obtain ⟨⟨w, B'⟩, k1, k2⟩ := Option.bind_eq_some_iff.1 hk
   obtain ⟨⟨w', Aw, Bw⟩, k3, k4⟩ := xfinish_ok r4 hlin3 k1
   split at k2
   ·rename_i d hd
    simp only at hd; subst hd
    simp only [Option.some.injEq] at k2; subst k2
    have k5 := k4.fit
    simp only [AV.fit] at k5
    obtain ⟨u, rfl, k6⟩ := k5
    refine ⟨u, Aw, by rw [k3]; rfl, k6, ?_, fun a ha => ?_, fun a ha => ?_⟩
    ·have := k4.held.nodup (.reg 0)
     simp only [locOwn, rown_one] at this
     simpa [AV.own] using this
    ·exact (k4.held.opn (.reg 0) a (by simp only [locOwn, rown_one]; simpa [AV.own] using ha)).1
    ·rcases k4.am a ha with h | h
     ·simp [Ids.none] at h
     ·exact h
   ·simp at k2
  rw [r3, Option.bind_some]
  cases e2 with
  | exit id => simp at r2
  | normal => exact key r2
  | ret => exact key r2
 unfold specV
 rw [if_neg hlen', h3, Option.bind_some]
 simp only at h2 ⊢
 split at h2
 ·rename_i x xr e1 e2
  obtain ⟨vb, g1, g2⟩ := h4.regs _ _ e1
  simp only [AV.fit, DV.fit] at g2
  obtain ⟨_, rfl, rfl⟩ := g2
  obtain ⟨vr, g3, g4⟩ := h4.regs _ _ e2
  have g4' := g4
  simp only [AV.fit, DV.fit] at g4
  obtain ⟨_, rfl, g', ys, rfl, g5, g6⟩ := g4
  rcases g6 with g6 | ⟨_, g6⟩
  ·exact absurd g6 (by decide)
  rcases g6 with ⟨g6, _⟩ | ⟨_, a, sz, rfl, g7⟩
  ·simp at g6
  have g5' := g5
  simp only [DV.fits] at g5
  obtain ⟨y, yr, rfl, f1, f2⟩ := g5
  obtain ⟨w, m1, m2⟩ := Option.bind_eq_some_iff.1 h2
  obtain ⟨q, m3, m4⟩ := Option.map_eq_some_iff.1 m2
  subst m4
  obtain ⟨w', n1, n2, n3, n4, n5⟩ := specAt_fit h4 m1
  have hloc5 : ∀ b, b ∈ a :: DV.owns (x :: xr) (y :: yr) → b ∈ locOwn s1.r s1.B v1.r v1.B (.reg sf.row) := by
   intro b hb
   simp only [locOwn, rown, e2, g3, AV.own, DV.own]
   rw [if_pos ⟨rfl, by simp⟩]
   simpa [Tag.ids] using hb
  have hnd5 : (a :: DV.owns (x :: xr) (y :: yr)).Nodup := by
   have := h4.held.nodup (.reg sf.row)
   simp only [locOwn, rown, e2, g3, AV.own, DV.own] at this
   rw [if_pos ⟨rfl, by simp⟩] at this
   simpa [Tag.ids] using this
  obtain ⟨r', A1, s3, s4, s5, s6, s7, s8, s9⟩ := xsort_ok href (A := v1.A) (a := a) (sz := sz) (q := (v1.c + 1) :: p) f1 f2 (fun b hb => by
    obtain ⟨t1, _, t3⟩ := h4.held.opn _ b (hloc5 b hb)
    exact ⟨t1, fun hF => t3 (hF.sub.le (Nat.le_succ _))⟩) hnd5 g7 m3
  simp only [g1, g3]
  refine ⟨.agg [w'.1, w'.2, .sl (.own a sz) r'], Ids.add a A1, by rw [n1, Option.bind_some, s3]; rfl, ?_, ?_, fun b hb => ?_, fun b hb => ?_⟩
  ·simp only [DV.fit, DV.fits]
   exact ⟨_, rfl, _, _, rfl, n2, _, _, rfl, n3, _, _, rfl, ⟨_, _, rfl, s4, .inr ⟨rfl, .inr ⟨by omega, _, _, rfl, s6⟩⟩⟩, rfl⟩
  ·simp only [DV.own, DV.owns, n4, n5]
   rw [if_pos ⟨trivial, by omega⟩]
   simpa [Tag.ids] using s7
  ·simp only [DV.own, DV.owns, n4, n5] at hb
   rw [if_pos ⟨trivial, by omega⟩] at hb
   simp only [Ids.add, Bool.or_eq_true, decide_eq_true_eq]
   simp [Tag.ids] at hb
   rcases hb with rfl | hb
   ·exact .inl rfl
   ·exact .inr (s8 b hb)
  ·have old : ∀ b, b ∈ a :: DV.owns (x :: xr) (y :: yr) → Fut p 0 b := fun b hb => by
    rcases (h4.am b (h4.held.opn _ b (hloc5 b hb)).1).2 with h | h
    ·simp [Ids.none] at h
    ·exact h
   simp only [Ids.add, Bool.or_eq_true, decide_eq_true_eq] at hb
   rcases hb with rfl | hb
   ·exact old b (by simp)
   ·rcases s9 b hb with h | h
    ·exact old b (List.mem_cons_of_mem _ h)
    ·exact h.sub.le (Nat.zero_le _)
 ·rename_i e1
  obtain ⟨vb, g1, g2⟩ := h4.regs _ _ e1
  simp only [AV.fit, DV.fit] at g2
  obtain ⟨_, rfl, rfl⟩ := g2
  obtain ⟨u, A1, k1, k2⟩ := hrest (e := .normal) rfl h2
  exact ⟨u, A1, by simp only [g1]; exact k1, k2⟩
 ·rename_i g e1 e2
  obtain ⟨vb, g1, g2⟩ := h4.regs _ _ e1
  simp only [AV.fit, DV.fit] at g2
  obtain ⟨_, rfl, rfl⟩ := g2
  obtain ⟨vr, g3, g4⟩ := h4.regs _ _ e2
  simp only [AV.fit, DV.fit, DV.fits] at g4
  obtain ⟨_, rfl, g', ys, rfl, rfl, g6⟩ := g4
  obtain ⟨u, A1, k1, k2⟩ := hrest (e := .normal) rfl h2
  exact ⟨u, A1, by simp only [g1, g3]; exact k1, k2⟩
 ·simp at h2
def NatRef (g : List DV → Option DV) (gv : Id → List AV → Option (DV × Ids)) : Prop :=
 ∀ ds v, g ds = some v → ∀ es p, DV.fits ds es → ∃ u A1, gv p (es.map .d) = some (u, A1) ∧ v.fit u ∧ (v.own u).Nodup ∧ (∀ a, a ∈ v.own u → A1 a = true) ∧ ∀ a, A1 a = true → Fut p 0 a
structure XOK (X : XEnv) : Prop where
 code : ∀ f vf, X.env.code f = some vf → vf.linOK (X.lin f) = true
 nat : ∀ f g, X.nat f = some g → ∃ gv, X.env.nat f = some gv ∧ NatRef g gv ∧ X.lin f = []
 no : ∀ f, X.nat f = none → X.env.nat f = none
 spec : ∀ f sf, X.env.spec f = some sf → sf.pre.linOK (X.lin f) = true ∧ sf.rest.linOK (X.lin f) = true ∧ linDistinct (X.lin f) (sf.results.flatMap VRes.vx) = true ∧ (X.lin f).all (fun j => decide (sf.np ≤ j)) = true
theorem xdatas : ∀ {cs : List AV} {ds : List DV}, datas cs = some ds → cs = ds.map .d
 | [], ds, h => by simp [datas] at h; subst h; rfl
 | v :: cs, ds, h => by
  cases v with
  | d d =>
   simp only [datas] at h
   obtain ⟨es, h3, rfl⟩ := Option.map_eq_some_iff.1 h
   rw [xdatas h3]; rfl
  | _ => simp [datas] at h
theorem nat_held {xs vs : List AV} {B Bv : Boxs} {A A1 : Ids} {F : Id → Prop} {p : Id} {v u : DV} {R : Option Res} (hh : Held F (Fut p 0) A (locOwn (argRegs 0 xs) B (argRegs 0 vs) Bv)) (hb : BoxFit B Bv)
  (g2 : v.fit u) (g3 : (v.own u).Nodup) (g4 : ∀ a, a ∈ v.own u → A1 a = true) (g5 : ∀ a, A1 a = true → Fut p 0 a) (hR : R = some ⟨.d u, Ids.or A1 A, Bv⟩) :
  ∃ w Bv' A', R = some ⟨w, A', Bv'⟩ ∧ (AV.d v).fit w ∧ BoxFit B Bv' ∧ Held F (fun _ => False) A' (locOwn [(0, .d v)] B [(0, w)] Bv') ∧ ∀ a, A' a = true → A a = true ∨ Fut p 0 a := by
 refine ⟨.d u, Bv, Ids.or A1 A, hR, by simp only [AV.fit]; exact ⟨_, rfl, g2⟩, hb, ⟨fun ℓ => ?_, fun ℓ ℓ' a ha ha' => ?_, fun ℓ a ha => ?_, fun a ha => ⟨by simp [Ids.or, (hh.fr a ha).1], id⟩⟩, fun a ha => ?_⟩
 ·cases ℓ with
  | reg t => simp only [locOwn, rown_one]; split
             ·exact g3
             ·simp
  | box j => exact hh.nodup (.box j)
 ·have key : ∀ a j, a ∈ v.own u → a ∉ bown B Bv j := fun a j h8 h9 => (hh.opn (.box j) a h9).2.2 (g5 a (g4 a h8))
  cases ℓ with
  | reg t =>
   simp only [locOwn, rown_one] at ha
   split at ha
   ·rename_i ht; subst ht
    cases ℓ' with
    | reg t' =>
     simp only [locOwn, rown_one] at ha'
     split at ha'
     ·rename_i ht; subst ht; rfl
     ·simp at ha'
    | box j => exact absurd ha' (key a j ha)
   ·simp at ha
  | box j =>
   cases ℓ' with
   | reg t' =>
    simp only [locOwn, rown_one] at ha'
    split at ha'
    ·exact absurd ha (key a j ha')
    ·simp at ha'
   | box j' => exact hh.apart (.box j) (.box j') a ha ha'
 ·cases ℓ with
  | reg t =>
   simp only [locOwn, rown_one] at ha
   split at ha
   ·have h8 := g4 a ha
    exact ⟨by simp [Ids.or, h8], fun hF => (hh.fr a hF).2 (g5 a h8), id⟩
   ·simp at ha
  | box j =>
   obtain ⟨q1, q2, _⟩ := hh.opn (.box j) a ha
   exact ⟨by simp [Ids.or, q1], q2, id⟩
 ·simp only [Ids.or, Bool.or_eq_true] at ha
  rcases ha with ha | ha
  ·exact .inr (g5 a ha)
  ·exact .inl ha
theorem xcallN_ok {X : XEnv} (hX : XOK X) : ∀ n, CallRef (xcallN X n) (callN X.env n) X.lin := by
 intro n
 induction n with
 | zero => intro f xs B v' B' h; simp [xcallN] at h
 | succ n ih =>
  intro f xs B v' B' hx p vs Bv A F hf hb hh hl ham
  simp only [xcallN] at hx
  split at hx
  ·rename_i g hg
   obtain ⟨gv, h1, h2, h3⟩ := hX.nat f g hg
   obtain ⟨ds, h4, h5⟩ := Option.bind_eq_some_iff.1 hx
   obtain ⟨v, h6, h7⟩ := Option.map_eq_some_iff.1 h5
   simp at h7; obtain ⟨rfl, rfl⟩ := h7
   obtain ⟨es, e1, e2, e3⟩ := fits_datas h4 hf
   have hvs : vs = es.map .d := by
    clear hx hf hh hl e2 e3 h4
    induction vs generalizing es with
    | nil => simp [datas] at e1; subst e1; rfl
    | cons u us ih =>
     cases u with
     | d d =>
      simp only [datas] at e1
      obtain ⟨es', h3, rfl⟩ := Option.map_eq_some_iff.1 e1
      rw [ih es' h3]; rfl
     | _ => simp [datas] at e1
   obtain ⟨u, A1, g1, g2, g3, g4, g5⟩ := h2 ds v h6 es p e2
   refine nat_held hh hb g2 g3 g4 g5 ?_
   simp only [callN, h1, e1, Option.bind_some]; rw [hvs, g1]; rfl
  ·rename_i hg
   split at hx
   ·rename_i hvf
    split at hx
    ·simp at hx
    rename_i sf hs
    obtain ⟨ds, h4, h5⟩ := Option.bind_eq_some_iff.1 hx
    obtain ⟨v, h6, h7⟩ := Option.map_eq_some_iff.1 h5
    simp at h7; obtain ⟨rfl, rfl⟩ := h7
    obtain ⟨es, e1, e2, e3⟩ := fits_datas h4 hf
    have hxs := xdatas h4
    have hvs := xdatas e1
    obtain ⟨l1, l2, l3, l4⟩ := hX.spec f sf hs
    have hnp : ds.length = sf.np := by
     unfold xspec at h6
     split at h6
     ·simp at h6
     ·rename_i hn; simpa using hn
    obtain ⟨u, A1, g1, g2, g3, g4, g5⟩ := xspec_ok ih (p := p) e2 l1 l2 l3 (fun j => by
     rw [← hxs, ← hvs]
     by_cases hj : (X.lin f).contains j = true
     ·have h8 := List.all_eq_true.1 l4 j (by simpa using hj)
      simp only [decide_eq_true_eq] at h8
      rw [rown_args]
      rw [hxs, List.getElem?_eq_none (by simp; omega)]
     ·exact hl j (by simpa using hj)) h6
    refine nat_held hh hb g2 g3 g4 g5 ?_
    simp only [callN, hX.no f hg, hvf, hs, e1, Option.bind_some, g1]; rfl
   ·rename_i vf hvf
    split at hx
    ·simp at hx
    ·rename_i hnp
     split at hx
     case h_2 m hbm =>
      split at hx
      ·simp at hx
      rename_i hBm
      obtain ⟨⟨e, s1⟩, h1, h2⟩ := Option.bind_eq_some_iff.1 hx
      have hlin := hX.code f vf hvf
      simp only [VFn.linOK, Bool.and_eq_true] at hlin
      have hlen := AV.fits_len hf
      obtain ⟨hcf, hco⟩ := AV.fits_clr _ _ hf
      have hcb : BoxFit (clrBs B) Bv := by
       refine ⟨by simp [clrBs, hb.1], fun i => ⟨fun h => ?_, fun cs h => ?_⟩⟩
       ·simp only [clrBs, List.getElem?_map] at h
        obtain ⟨o, h3, h4⟩ := Option.map_eq_some_iff.1 h
        cases o with
        | none => exact (hb.2 i).1 h3
        | some c => simp at h4
       ·simp only [clrBs, List.getElem?_map] at h
        obtain ⟨o, h3, h4⟩ := Option.map_eq_some_iff.1 h
        cases o with
        | none => simp at h4
        | some c =>
         simp only [Option.map_some, Option.some.injEq] at h4
         subst h4
         obtain ⟨ds, h5, h6⟩ := (hb.2 i).2 c h3
         exact ⟨ds, h5, (AV.fits_clr _ _ h6).1⟩
      have hre : ∀ j, rown (argRegs 0 (AV.clrs xs)) (argRegs 0 vs) j = [] := by
       intro j
       rw [rown_args, AV.clrs_map, List.getElem?_map]
       cases xs[j]? with
       | none => rfl
       | some a => cases vs[j]? with
        | none => rfl
        | some b => simp [AV.own_clr]
      have hbo : ∀ j, bown (clrBs B) Bv j = [] := by
       intro j
       unfold bown
       split
       ·rename_i cs ds q1 q2
        have q3 := xbget_some.1 q1
        simp only [clrBs, List.getElem?_map] at q3
        obtain ⟨o, q4, q5⟩ := Option.map_eq_some_iff.1 q3
        cases o with
        | none => simp at q5
        | some c =>
         simp only [Option.map_some, Option.some.injEq] at q5
         subst q5
         obtain ⟨ds', q6, q7⟩ := (hb.2 j).2 c q4
         have := xbget_some.1 q2
         rw [q6] at this
         simp only [Option.some.injEq] at this; subst this
         exact (AV.fits_clr _ _ q7).2
       ·rfl
      have hloc : ∀ ℓ, locOwn (argRegs 0 (AV.clrs xs)) (clrBs B) (argRegs 0 vs) Bv ℓ = [] := by
       intro ℓ; cases ℓ with
       | reg t => exact hre t
       | box j => exact hbo j
      have h0 : Rel Ids.none (X.lin f) (fun _ => False) p 0 ⟨argRegs 0 (AV.clrs xs), clrBs B⟩ ⟨argRegs 0 vs, Bv, Ids.none, 0⟩ := by
       refine ⟨fun t x ht => ?_, hcb, ⟨fun ℓ => by rw [hloc]; simp, fun ℓ ℓ' a ha => by rw [hloc] at ha; simp at ha, fun ℓ a ha => by rw [hloc] at ha; simp at ha, fun a ha => by simp at ha⟩, fun t _ => hre t, fun t ht => ?_, fun a ha => by simp [Ids.none] at ha⟩
       ·simp only [lk_args] at ht ⊢
        simp only [Nat.zero_le, if_true, Nat.sub_zero] at ht ⊢
        exact AV.fits_get hcf ht
       ·simp only [lk_args] at ht ⊢
        simp only [Nat.zero_le, if_true, Nat.sub_zero] at ht ⊢
        rw [List.getElem?_eq_none_iff] at ht ⊢
        rw [AV.clrs_len] at ht
        omega
      obtain ⟨v1, h3, h4⟩ := xCode_ok (sv := ⟨argRegs 0 vs, Bv, Ids.none, 0⟩) ih n vf.code hlin.1 _ _ _ h0 h1
      have hc : (∀ id, e ≠ .exit id) → callN X.env (n + 1) p f vs Bv A = (finish Bv.length p v1 vf.results).map fun q => ⟨q.v, Ids.or q.A A, q.B⟩ := by
       intro hne
       rw [callN]
       simp only [hX.no f hg, hvf, hbm]
       rw [if_neg (by rw [← hlen]; exact hnp), if_neg (by rw [← hb.1]; exact hBm), h3]
       cases e with
       | exit id => exact absurd rfl (hne id)
       | normal => rfl
       | ret => rfl
      have fin : ∀ {v' B'}, xfinish B.length s1 vf.results = some (v', B') → (∀ id, e ≠ .exit id) → ∃ v Bv' A', callN X.env (n + 1) p f vs Bv A = some ⟨v, A', Bv'⟩ ∧ v'.fit v ∧ BoxFit B' Bv' ∧ Held F (fun _ => False) A' (locOwn [(0, v')] B' [(0, v)] Bv') ∧ ∀ a, A' a = true → A a = true ∨ Fut p 0 a := by
       intro v' B' h5 he
       obtain ⟨r, h6, h7⟩ := xfinish_ok h4 hlin.2 h5
       have hfut : ∀ a, r.A a = true → Fut p 0 a := fun a ha => by
        rcases h7.am a ha with h8 | h8
        ·simp [Ids.none] at h8
        ·exact h8
       refine ⟨r.v, r.B, Ids.or r.A A, ?_, h7.fit, h7.boxes, ⟨h7.held.nodup, h7.held.apart, fun ℓ a ha => ?_, fun a ha => ⟨by simp [Ids.or, (hh.fr a ha).1], id⟩⟩, fun a ha => ?_⟩
       ·rw [hc he]
        rw [hb.1] at h6
        rw [h6]; rfl
       ·obtain ⟨q1, _, _⟩ := h7.held.opn ℓ a ha
        exact ⟨by simp [Ids.or, q1], fun hF => (hh.fr a hF).2 (hfut a q1), id⟩
       ·simp only [Ids.or, Bool.or_eq_true] at ha
        rcases ha with ha | ha
        ·exact .inr (hfut a ha)
        ·exact .inl ha
      cases e with
      | exit id => simp at h2
      | normal => exact fin h2 (fun id h => by simp at h)
      | ret => exact fin h2 (fun id h => by simp at h)
     rename_i hbn
     obtain ⟨⟨e, s1⟩, h1, h2⟩ := Option.bind_eq_some_iff.1 hx
     have hlin := hX.code f vf hvf
     simp only [VFn.linOK, Bool.and_eq_true] at hlin
     have hlen := AV.fits_len hf
     have h0 : Rel A (X.lin f) F p 0 ⟨argRegs 0 xs, B⟩ ⟨argRegs 0 vs, Bv, A, 0⟩ := by
      refine ⟨fun t x ht => ?_, hb, hh, hl, fun t ht => ?_, fun a ha => ⟨ham a ha, .inl ha⟩⟩
      ·simp only [lk_args] at ht ⊢
       simp only [Nat.zero_le, if_true, Nat.sub_zero] at ht ⊢
       exact AV.fits_get hf ht
      ·simp only [lk_args] at ht ⊢
       simp only [Nat.zero_le, if_true, Nat.sub_zero] at ht ⊢
       rw [List.getElem?_eq_none_iff] at ht ⊢
       omega
     obtain ⟨v1, h3, h4⟩ := xCode_ok (sv := ⟨argRegs 0 vs, Bv, A, 0⟩) ih n vf.code hlin.1 _ _ _ h0 h1
     have hc : (∀ id, e ≠ .exit id) → callN X.env (n + 1) p f vs Bv A = finish Bv.length p v1 vf.results := by
      intro hne
      rw [callN]
      simp only [hX.no f hg, hvf, hbn]
      rw [if_neg (by rw [← hlen]; exact hnp), h3]
      cases e with
      | exit id => exact absurd rfl (hne id)
      | normal => rfl
      | ret => rfl
     have fin : ∀ {v' B'}, xfinish B.length s1 vf.results = some (v', B') → (∀ id, e ≠ .exit id) → ∃ v Bv' A', callN X.env (n + 1) p f vs Bv A = some ⟨v, A', Bv'⟩ ∧ v'.fit v ∧ BoxFit B' Bv' ∧ Held F (fun _ => False) A' (locOwn [(0, v')] B' [(0, v)] Bv') ∧ ∀ a, A' a = true → A a = true ∨ Fut p 0 a := by
      intro v' B' h5 he
      obtain ⟨r, h6, h7⟩ := xfinish_ok h4 hlin.2 h5
      refine ⟨r.v, r.B, r.A, ?_, h7.fit, h7.boxes, h7.held, h7.am⟩
      rw [hc he, ← hb.1, h6]
     cases e with
     | exit id => simp at h2
     | normal => exact fin h2 (fun id h => by simp at h)
     | ret => exact fin h2 (fun id h => by simp at h)
end
end Go.Proofs.Ytfiakfiocdfpbaa.VS
namespace Go.Proofs.Ytfiakfiocdfpbaa.VS
open Classical
def XLe (c c' : XCaller) : Prop := ∀ f as B r, c f as B = some r → c' f as B = some r
theorem xOp_mono {c c' : XCaller} (h : XLe c c') (lin : Nat → List Nat) (T : List Nat) (draw : Bool) (L0 : Nat) (o : VOper) : FLe (xOp c lin T draw L0 o) (xOp c' lin T draw L0 o) := by
 intro s r hr
 obtain ⟨dst, op, g, af⟩ := o
 cases op
 case call iso f args =>
  simp only [xOp] at hr ⊢
  split at hr
  ·rename_i k caps vs h1 h2
   split at hr
   ·rename_i hiso
    simp only [hiso, if_true]
    split at hr
    ·rename_i hk
     split at hr
     ·rename_i hc
      rw [h _ _ _ _ hc]
      exact hr
     ·simp at hr
    ·simp at hr
   ·rename_i hiso
    simp only [hiso]
    split at hr
    ·rename_i hd
     rw [if_pos hd]
     split at hr
     ·rename_i hc
      rw [h _ _ _ _ hc]
      exact hr
     ·simp at hr
    ·simp at hr
  ·simp at hr
 case callT th f args =>
  simp only [xOp] at hr ⊢
  split at hr
  ·split at hr
   ·rename_i hd
    rw [if_pos hd]
    obtain ⟨ds, h1, h2⟩ := Option.bind_eq_some_iff.1 hr
    rw [h1]
    simp only [Option.bind_some]
    split at h2
    ·rename_i hc
     rw [h _ _ _ _ hc]
     exact h2
    ·simp at h2
   ·simp at hr
  ·simp at hr
 case callS cc f args =>
  simp only [xOp] at hr ⊢
  split at hr
  ·split at hr
   ·simp at hr
   rename_i hb
   rw [if_neg hb]
   obtain ⟨ds, h1, hr⟩ := Option.bind_eq_some_iff.1 hr
   obtain ⟨cs, h2, hr⟩ := Option.bind_eq_some_iff.1 hr
   obtain ⟨es, h3, hr⟩ := Option.bind_eq_some_iff.1 hr
   rw [h1, Option.bind_some, h2, Option.bind_some, h3, Option.bind_some]
   split at hr
   ·rename_i hc
    rw [h _ _ _ _ hc]; exact hr
   ·simp at hr
  ·simp at hr
 all_goals exact hr
theorem xOps_mono {c c' : XCaller} (h : XLe c c') (lin : Nat → List Nat) (T : List Nat) (draw : Bool) (L0 : Nat) (os : List VOper) : FLe (xOps c lin T draw L0 os) (xOps c' lin T draw L0 os) := by
 induction os with
 | nil => intro s r hr; exact hr
 | cons o os ih =>
  intro s r hr
  simp only [xOps] at hr ⊢
  split at hr
  ·obtain ⟨s1, h1, h2⟩ := Option.bind_eq_some_iff.1 hr
   exact Option.bind_eq_some_iff.2 ⟨s1, xOp_mono h lin T draw L0 o s s1 h1, ih _ _ h2⟩
  ·exact ih _ _ hr
  ·simp at hr
theorem xRegion_mono {c c' : XCaller} (h : XLe c c') (lin : Nat → List Nat) (T : List Nat) (draw : Bool) (na : Nat) (live : List Nat) (ops : List VOper) : FLe (xRegion c lin T draw na live ops) (xRegion c' lin T draw na live ops) := by
 intro s r hr
 unfold xRegion at hr ⊢
 split
 ·simp_all
 ·rename_i hd
  simp only [hd] at hr
  obtain ⟨s1, h1, h2⟩ := Option.map_eq_some_iff.1 hr
  exact Option.map_eq_some_iff.2 ⟨s1, xOps_mono h lin T draw _ ops _ _ h1, h2⟩
theorem xFs_mono {c c' : XCaller} (h : XLe c c') (lin : Nat → List Nat) (T : List Nat) (draw : Bool) (L0 : Nat) (fs : List FOper) : FLe (xFs c lin T draw L0 fs) (xFs c' lin T draw L0 fs) := by
 induction fs with
 | nil => intro s r hr; exact hr
 | cons f fs ih =>
  intro s r hr
  simp only [xFs] at hr ⊢
  obtain ⟨s1, h1, h2⟩ := Option.bind_eq_some_iff.1 hr
  obtain ⟨s2, h3, h4⟩ := Option.bind_eq_some_iff.1 h2
  exact Option.bind_eq_some_iff.2 ⟨s1, xOps_mono h lin T draw L0 f.pre _ _ h1, Option.bind_eq_some_iff.2 ⟨s2, h3, ih _ _ h4⟩⟩
theorem xRegionF_mono {c c' : XCaller} (h : XLe c c') (lin : Nat → List Nat) (T : List Nat) (draw : Bool) (na : Nat) (live : List Nat) (fs : List FOper) : FLe (xRegionF c lin T draw na live fs) (xRegionF c' lin T draw na live fs) := by
 intro s r hr
 unfold xRegionF at hr ⊢
 split
 ·simp_all
 ·rename_i hd
  simp only [hd] at hr
  obtain ⟨s1, h1, h2⟩ := Option.map_eq_some_iff.1 hr
  exact Option.map_eq_some_iff.2 ⟨s1, xFs_mono h lin T draw _ fs _ _ h1, h2⟩
theorem xloopN_mono {f g : XS → Option (Ex × XS)} (h : FLe f g) (L1 : Nat) (live : List Nat) : ∀ n m, n ≤ m → FLe (xloopN f L1 live n) (xloopN g L1 live m) := by
 intro n
 induction n with
 | zero => intro m _ s r hr; simp [xloopN] at hr
 | succ n ih =>
  intro m hm s r hr
  obtain ⟨m, rfl⟩ : ∃ k, m = k + 1 := ⟨m - 1, by omega⟩
  simp only [xloopN] at hr ⊢
  obtain ⟨s0, h0, hr⟩ := Option.bind_eq_some_iff.1 hr
  obtain ⟨⟨e, s1⟩, h1, hr⟩ := Option.bind_eq_some_iff.1 hr
  refine Option.bind_eq_some_iff.2 ⟨s0, h0, Option.bind_eq_some_iff.2 ⟨(e, s1), h _ _ h1, ?_⟩⟩
  cases e with
  | normal => exact ih m (by omega) _ _ hr
  | exit id => exact hr
  | ret => exact hr
theorem xCode_mono {c c' : XCaller} (h : XLe c c') (lin : Nat → List Nat) (T : List Nat) {n m : Nat} (hn : n ≤ m) (vc : VCode) : FLe (xCode c lin T n vc) (xCode c' lin T m vc) := by
 induction vc with
 | skip => intro s r hr; exact hr
 | ret => intro s r hr; exact hr
 | exit id => intro s r hr; exact hr
 | seq a b iha ihb =>
  intro s r hr
  simp only [xCode] at hr ⊢
  obtain ⟨⟨e, s1⟩, h1, hr⟩ := Option.bind_eq_some_iff.1 hr
  refine Option.bind_eq_some_iff.2 ⟨(e, s1), iha _ _ h1, ?_⟩
  cases e with
  | normal => exact ihb _ _ hr
  | exit id => exact hr
  | ret => exact hr
 | region draw na live ops =>
  intro s r hr
  simp only [xCode] at hr ⊢
  obtain ⟨s1, h1, h2⟩ := Option.map_eq_some_iff.1 hr
  exact Option.map_eq_some_iff.2 ⟨s1, xRegion_mono h lin T draw na live ops _ _ h1, h2⟩
 | regionF draw na live fs =>
  intro s r hr
  simp only [xCode] at hr ⊢
  obtain ⟨s1, h1, h2⟩ := Option.map_eq_some_iff.1 hr
  exact Option.map_eq_some_iff.2 ⟨s1, xRegionF_mono h lin T draw na live fs _ _ h1, h2⟩
 | cond x a b iha ihb =>
  intro s r hr
  simp only [xCode] at hr ⊢
  split at hr
  ·exact iha _ _ hr
  ·exact ihb _ _ hr
  ·simp at hr
 | block id cc ih =>
  intro s r hr
  simp only [xCode] at hr ⊢
  obtain ⟨s1, h1, h2⟩ := Option.map_eq_some_iff.1 hr
  exact Option.map_eq_some_iff.2 ⟨s1, ih _ _ h1, h2⟩
 | loop live cc ih =>
  intro s r hr
  simp only [xCode] at hr ⊢
  exact xloopN_mono ih _ _ n m hn _ _ hr
 | ghost x cc ih =>
  intro s r hr
  simp only [xCode] at hr ⊢
  obtain ⟨s1, h1, h2⟩ := Option.bind_eq_some_iff.1 hr
  exact Option.bind_eq_some_iff.2 ⟨s1, h1, ih _ _ h2⟩
 | regionT na live pre tl =>
  intro s r hr
  simp only [xCode] at hr ⊢
  obtain ⟨s1, h1, h2⟩ := Option.map_eq_some_iff.1 hr
  refine Option.map_eq_some_iff.2 ⟨s1, ?_, h2⟩
  unfold xRegionT at h1 ⊢
  split
  ·rename_i hd; rw [if_pos hd] at h1; simp at h1
  ·rename_i hd
   rw [if_neg hd] at h1
   obtain ⟨s2, h3, h4⟩ := Option.bind_eq_some_iff.1 h1
   obtain ⟨s3, h5, h6⟩ := Option.map_eq_some_iff.1 h4
   exact Option.bind_eq_some_iff.2 ⟨s2, xOps_mono h lin T true _ pre _ _ h3, Option.map_eq_some_iff.2 ⟨s3, xOps_mono h lin T false _ tl _ _ h5, h6⟩⟩
theorem xsort_mono {c c' : XCaller} (h : XLe c c') (sf : SFn) (x : DV) (xr : List DV) : ∀ r, xsort c sf x xr = some r → xsort c' sf x xr = some r := by
 intro r hr
 unfold xsort at hr ⊢
 split at hr
 ·rename_i hc
  rw [if_pos hc]
  split at hr
  ·rename_i v cs hq
   rw [h _ _ _ _ hq]; exact hr
  ·simp at hr
 ·simp at hr
theorem xspec_mono {c c' : XCaller} (h : XLe c c') {n m : Nat} (hn : n ≤ m) (lin : Nat → List Nat) (T : List Nat) (sf : SFn) (ds : List DV) : ∀ r, xspec c lin T n sf ds = some r → xspec c' lin T m sf ds = some r := by
 intro r hr
 unfold xspec at hr ⊢
 split at hr
 ·simp at hr
 rename_i hlen
 rw [if_neg hlen]
 obtain ⟨⟨e, s⟩, h1, h2⟩ := Option.bind_eq_some_iff.1 hr
 refine Option.bind_eq_some_iff.2 ⟨(e, s), xCode_mono h lin T hn sf.pre _ _ h1, ?_⟩
 simp only at h2 ⊢
 split at h2
 ·rename_i x xr e1 e2
  obtain ⟨y, h3, h4⟩ := Option.bind_eq_some_iff.1 h2
  obtain ⟨q, h5, h6⟩ := Option.map_eq_some_iff.1 h4
  exact Option.bind_eq_some_iff.2 ⟨y, h3, Option.map_eq_some_iff.2 ⟨q, xsort_mono h _ _ _ _ h5, h6⟩⟩
 ·rename_i e1
  obtain ⟨q, h5, h6⟩ := Option.bind_eq_some_iff.1 h2
  exact Option.bind_eq_some_iff.2 ⟨q, xCode_mono h lin T hn sf.rest _ _ h5, h6⟩
 ·rename_i g e1 e2
  obtain ⟨q, h5, h6⟩ := Option.bind_eq_some_iff.1 h2
  exact Option.bind_eq_some_iff.2 ⟨q, xCode_mono h lin T hn sf.rest _ _ h5, h6⟩
 ·simp at h2
theorem xcallN_mono (X : XEnv) : ∀ n, XLe (xcallN X n) (xcallN X (n + 1)) := by
 intro n
 induction n with
 | zero => intro f as B r hr; simp [xcallN] at hr
 | succ n ih =>
  intro f as B r hr
  rw [xcallN] at hr ⊢
  split
  ·rename_i g hg
   rw [hg] at hr
   exact hr
  ·rename_i hg
   simp only [hg] at hr
   split
   ·rename_i hf
    simp only [hf] at hr
    split
    ·rename_i hs; simp [hs] at hr
    ·rename_i sf hs
     simp only [hs] at hr
     obtain ⟨ds, h1, h2⟩ := Option.bind_eq_some_iff.1 hr
     obtain ⟨q, h3, h4⟩ := Option.map_eq_some_iff.1 h2
     exact Option.bind_eq_some_iff.2 ⟨ds, h1, Option.map_eq_some_iff.2 ⟨q, xspec_mono ih (Nat.le_succ n) _ _ sf ds _ h3, h4⟩⟩
   ·rename_i vf hf
    simp only [hf] at hr
    split at hr
    ·simp at hr
    ·rename_i hnp
     rw [if_neg hnp]
     split at hr
     ·rename_i hb
      obtain ⟨s1, h1, h2⟩ := Option.bind_eq_some_iff.1 hr
      exact Option.bind_eq_some_iff.2 ⟨s1, xCode_mono ih _ _ (Nat.le_succ n) vf.code _ _ h1, h2⟩
     ·rename_i m hb
      split at hr
      ·simp at hr
      rename_i hm
      rw [if_neg hm]
      obtain ⟨s1, h1, h2⟩ := Option.bind_eq_some_iff.1 hr
      exact Option.bind_eq_some_iff.2 ⟨s1, xCode_mono ih _ _ (Nat.le_succ n) vf.code _ _ h1, h2⟩
theorem xcallN_le (X : XEnv) {n m : Nat} (h : n ≤ m) : XLe (xcallN X n) (xcallN X m) := by
 induction h with
 | refl => intro f as B r hr; exact hr
 | step _ ih => intro f as B r hr; exact xcallN_mono X _ _ _ _ _ (ih _ _ _ _ hr)
noncomputable def callX (X : XEnv) : XCaller := fun f as B => lim fun n => xcallN X n f as B
noncomputable def codeX (X : XEnv) (T : List Nat) (c : VCode) (s : XS) : Option (Ex × XS) := lim fun n => xCode (xcallN X n) X.lin T n c s
theorem callX_some {X : XEnv} {f : Nat} {as : List AV} {B : Boxs} {r : AV × Boxs} : callX X f as B = some r ↔ ∃ n, xcallN X n f as B = some r :=
 lim_eq (fun n m r h hr => xcallN_le X h _ _ _ _ hr) r
theorem codeX_some {X : XEnv} {T : List Nat} {c : VCode} {s : XS} {r : Ex × XS} : codeX X T c s = some r ↔ ∃ n, xCode (xcallN X n) X.lin T n c s = some r :=
 lim_eq (fun n m r h hr => xCode_mono (xcallN_le X h) _ _ h c _ _ hr) r
theorem callX_ge (X : XEnv) (n : Nat) : XLe (xcallN X n) (callX X) := fun _ _ _ _ h => callX_some.2 ⟨n, h⟩
theorem xOp_fin (X : XEnv) (T : List Nat) (draw : Bool) (L0 : Nat) (o : VOper) (s r : XS) (hr : xOp (callX X) X.lin T draw L0 o s = some r) : ∃ n, xOp (xcallN X n) X.lin T draw L0 o s = some r := by
 obtain ⟨dst, op, g, af⟩ := o
 cases op
 case call iso f args =>
  simp only [xOp] at hr ⊢
  split at hr
  ·rename_i k caps vs h1 h2
   split at hr
   ·rename_i hiso
    simp only [hiso, if_true]
    split at hr
    ·rename_i hk
     split at hr
     ·rename_i hc
      obtain ⟨n, hn⟩ := callX_some.1 hc
      exact ⟨n, by rw [hn]; exact hr⟩
     ·simp at hr
    ·simp at hr
   ·rename_i hiso
    simp only [hiso]
    split at hr
    ·rename_i hd
     split at hr
     ·rename_i hc
      obtain ⟨n, hn⟩ := callX_some.1 hc
      exact ⟨n, by rw [if_pos hd, hn]; exact hr⟩
     ·simp at hr
    ·simp at hr
  ·simp at hr
 case callT th f args =>
  simp only [xOp] at hr ⊢
  split at hr
  ·split at hr
   ·rename_i hd
    obtain ⟨ds, h1, h2⟩ := Option.bind_eq_some_iff.1 hr
    split at h2
    ·rename_i hc
     obtain ⟨n, hn⟩ := callX_some.1 hc
     exact ⟨n, by rw [if_pos hd, h1]; simp only [Option.bind_some]; rw [hn]; exact h2⟩
    ·simp at h2
   ·simp at hr
  ·simp at hr
 case callS cc f args =>
  simp only [xOp] at hr ⊢
  split at hr
  ·split at hr
   ·simp at hr
   rename_i hb
   obtain ⟨ds, h1, hr⟩ := Option.bind_eq_some_iff.1 hr
   obtain ⟨cs, h2, hr⟩ := Option.bind_eq_some_iff.1 hr
   obtain ⟨es, h3, hr⟩ := Option.bind_eq_some_iff.1 hr
   split at hr
   ·rename_i hc
    obtain ⟨n, hn⟩ := callX_some.1 hc
    exact ⟨n, by rw [if_neg hb, h1, Option.bind_some, h2, Option.bind_some, h3, Option.bind_some, hn]; exact hr⟩
   ·simp at hr
  ·simp at hr
 all_goals exact ⟨0, hr⟩
theorem xOps_fin (X : XEnv) (T : List Nat) (draw : Bool) (L0 : Nat) (os : List VOper) : ∀ s r, xOps (callX X) X.lin T draw L0 os s = some r → ∃ n, xOps (xcallN X n) X.lin T draw L0 os s = some r := by
 induction os with
 | nil => intro s r hr; exact ⟨0, hr⟩
 | cons o os ih =>
  intro s r hr
  simp only [xOps] at hr ⊢
  split at hr
  ·obtain ⟨s1, h1, h2⟩ := Option.bind_eq_some_iff.1 hr
   obtain ⟨n, hn⟩ := xOp_fin X T draw L0 o s s1 h1
   obtain ⟨m, hm⟩ := ih _ _ h2
   exact ⟨Nat.max n m, Option.bind_eq_some_iff.2 ⟨s1, xOp_mono (xcallN_le X (Nat.le_max_left n m)) _ _ _ _ _ _ _ hn, xOps_mono (xcallN_le X (Nat.le_max_right n m)) _ _ _ _ _ _ _ hm⟩⟩
  ·exact ih _ _ hr
  ·simp at hr
theorem codeX_region (X : XEnv) (T : List Nat) (draw : Bool) (na : Nat) (live : List Nat) (ops : List VOper) (s : XS) :
  codeX X T (.region draw na live ops) s = (xRegion (callX X) X.lin T draw na live ops s).map fun s' => (.normal, s') := by
 refine ext_some fun r => ?_
 rw [codeX_some]
 constructor
 ·rintro ⟨n, hn⟩
  simp only [xCode] at hn
  obtain ⟨s1, h1, h2⟩ := Option.map_eq_some_iff.1 hn
  exact Option.map_eq_some_iff.2 ⟨s1, xRegion_mono (callX_ge X n) _ _ _ _ _ _ _ _ h1, h2⟩
 ·intro h
  obtain ⟨s1, h1, h2⟩ := Option.map_eq_some_iff.1 h
  unfold xRegion at h1
  split at h1
  ·simp at h1
  ·rename_i hd
   obtain ⟨s2, h3, h4⟩ := Option.map_eq_some_iff.1 h1
   obtain ⟨n, hn⟩ := xOps_fin _ _ _ _ _ _ _ h3
   refine ⟨n, ?_⟩
   simp only [xCode]
   refine Option.map_eq_some_iff.2 ⟨s1, ?_, h2⟩
   unfold xRegion
   rw [if_neg hd]
   exact Option.map_eq_some_iff.2 ⟨s2, hn, h4⟩
theorem codeX_skip (X : XEnv) (T : List Nat) (s : XS) : codeX X T .skip s = some (.normal, s) := codeX_some.2 ⟨0, rfl⟩
theorem codeX_ret (X : XEnv) (T : List Nat) (s : XS) : codeX X T .ret s = some (.ret, s) := codeX_some.2 ⟨0, rfl⟩
theorem codeX_exit (X : XEnv) (T : List Nat) (id : Nat) (s : XS) : codeX X T (.exit id) s = some (.exit id, s) := codeX_some.2 ⟨0, rfl⟩
def xThen (r : Option (Ex × XS)) (k : XS → Option (Ex × XS)) : Option (Ex × XS) :=
 r.bind fun r => match r.1 with
  | .normal => k r.2
  | _ => some r
theorem codeX_seq (X : XEnv) (T : List Nat) (a b : VCode) (s : XS) : codeX X T (.seq a b) s = xThen (codeX X T a s) (codeX X T b) := by
 refine ext_some fun r => ?_
 unfold xThen
 rw [codeX_some]
 constructor
 ·rintro ⟨n, hn⟩
  simp only [xCode] at hn
  obtain ⟨⟨e, s1⟩, h1, hr⟩ := Option.bind_eq_some_iff.1 hn
  refine Option.bind_eq_some_iff.2 ⟨(e, s1), codeX_some.2 ⟨n, h1⟩, ?_⟩
  cases e with
  | normal => exact codeX_some.2 ⟨n, hr⟩
  | exit id => exact hr
  | ret => exact hr
 ·intro h
  obtain ⟨⟨e, s1⟩, h1, hr⟩ := Option.bind_eq_some_iff.1 h
  obtain ⟨n, hn⟩ := codeX_some.1 h1
  cases e with
  | normal =>
   obtain ⟨m, hm⟩ := codeX_some.1 hr
   refine ⟨Nat.max n m, ?_⟩
   simp only [xCode]
   exact Option.bind_eq_some_iff.2 ⟨_, xCode_mono (xcallN_le X (Nat.le_max_left n m)) _ _ (Nat.le_max_left n m) _ _ _ hn, xCode_mono (xcallN_le X (Nat.le_max_right n m)) _ _ (Nat.le_max_right n m) _ _ _ hm⟩
  | exit id => exact ⟨n, by simp only [xCode]; exact Option.bind_eq_some_iff.2 ⟨_, hn, hr⟩⟩
  | ret => exact ⟨n, by simp only [xCode]; exact Option.bind_eq_some_iff.2 ⟨_, hn, hr⟩⟩
theorem codeX_cond (X : XEnv) (T : List Nat) (x : VX) (a b : VCode) (s : XS) :
  codeX X T (.cond x a b) s = match xget s.r x with
   | some (.d (.bool true)) => codeX X T a s
   | some (.d (.bool false)) => codeX X T b s
   | _ => none := by
 unfold codeX
 split <;> simp only [xCode, *]
 unfold lim
 split
 ·rename_i h; obtain ⟨n, hn⟩ := h; simp at hn
 ·rfl
theorem codeX_block (X : XEnv) (T : List Nat) (id : Nat) (c : VCode) (s : XS) :
  codeX X T (.block id c) s = (codeX X T c s).map fun r => if r.1 = .exit id then (.normal, r.2) else r := by
 refine ext_some fun r => ?_
 rw [codeX_some]
 constructor
 ·rintro ⟨n, hn⟩
  simp only [xCode] at hn
  obtain ⟨s1, h1, h2⟩ := Option.map_eq_some_iff.1 hn
  exact Option.map_eq_some_iff.2 ⟨s1, codeX_some.2 ⟨n, h1⟩, h2⟩
 ·intro h
  obtain ⟨s1, h1, h2⟩ := Option.map_eq_some_iff.1 h
  obtain ⟨n, hn⟩ := codeX_some.1 h1
  exact ⟨n, by simp only [xCode]; exact Option.map_eq_some_iff.2 ⟨s1, hn, h2⟩⟩
noncomputable def loopX (X : XEnv) (T : List Nat) (L1 : Nat) (live : List Nat) (c : VCode) (s : XS) : Option (Ex × XS) := lim fun n => xloopN (xCode (xcallN X n) X.lin T n c) L1 live n s
theorem codeX_loop (X : XEnv) (T : List Nat) (live : List Nat) (c : VCode) (s : XS) : codeX X T (.loop live c) s = loopX X T s.B.length live c s := rfl
theorem xFs_fin (X : XEnv) (T : List Nat) (draw : Bool) (L0 : Nat) : ∀ (fs : List FOper) (s r : XS), xFs (callX X) X.lin T draw L0 fs s = some r → ∃ n, xFs (xcallN X n) X.lin T draw L0 fs s = some r := by
 intro fs
 induction fs with
 | nil => intro s r hr; exact ⟨0, hr⟩
 | cons f fs ih =>
  intro s r hr
  simp only [xFs] at hr ⊢
  obtain ⟨s1, h1, h2⟩ := Option.bind_eq_some_iff.1 hr
  obtain ⟨s2, h3, h4⟩ := Option.bind_eq_some_iff.1 h2
  obtain ⟨n, hn⟩ := xOps_fin _ _ _ _ _ _ _ h1
  obtain ⟨m, hm⟩ := ih _ _ h4
  exact ⟨Nat.max n m, Option.bind_eq_some_iff.2 ⟨s1, xOps_mono (xcallN_le X (Nat.le_max_left n m)) _ _ _ _ _ _ _ hn, Option.bind_eq_some_iff.2 ⟨s2, h3, xFs_mono (xcallN_le X (Nat.le_max_right n m)) _ _ _ _ _ _ _ hm⟩⟩⟩
theorem codeX_regionF (X : XEnv) (T : List Nat) (draw : Bool) (na : Nat) (live : List Nat) (fs : List FOper) (s : XS) : codeX X T (.regionF draw na live fs) s = (xRegionF (callX X) X.lin T draw na live fs s).map fun s' => (.normal, s') := by
 refine ext_some fun r => ?_
 rw [codeX_some]
 constructor
 ·rintro ⟨n, hn⟩
  simp only [xCode] at hn
  obtain ⟨s1, h1, h2⟩ := Option.map_eq_some_iff.1 hn
  exact Option.map_eq_some_iff.2 ⟨s1, xRegionF_mono (callX_ge X n) _ _ _ _ _ _ _ _ h1, h2⟩
 ·intro h
  obtain ⟨s1, h1, h2⟩ := Option.map_eq_some_iff.1 h
  unfold xRegionF at h1
  split at h1
  ·simp at h1
  ·rename_i hd
   obtain ⟨s2, h3, h4⟩ := Option.map_eq_some_iff.1 h1
   obtain ⟨n, hn⟩ := xFs_fin _ _ _ _ _ _ _ h3
   refine ⟨n, ?_⟩
   simp only [xCode]
   refine Option.map_eq_some_iff.2 ⟨s1, ?_, h2⟩
   unfold xRegionF
   rw [if_neg hd]
   exact Option.map_eq_some_iff.2 ⟨s2, hn, h4⟩
theorem codeX_regionT (X : XEnv) (T : List Nat) (na : Nat) (live : List Nat) (pre tl : List VOper) (s : XS) : codeX X T (.regionT na live pre tl) s = (xRegionT (callX X) X.lin T na live pre tl s).map fun s' => (.normal, s') := by
 refine ext_some fun r => ?_
 rw [codeX_some]
 constructor
 ·rintro ⟨n, hn⟩
  simp only [xCode] at hn
  obtain ⟨s1, h1, h2⟩ := Option.map_eq_some_iff.1 hn
  refine Option.map_eq_some_iff.2 ⟨s1, ?_, h2⟩
  unfold xRegionT at h1 ⊢
  split at h1
  ·simp at h1
  ·rename_i hd
   rw [if_neg hd]
   obtain ⟨s2, h3, h4⟩ := Option.bind_eq_some_iff.1 h1
   obtain ⟨s3, h5, h6⟩ := Option.map_eq_some_iff.1 h4
   exact Option.bind_eq_some_iff.2 ⟨s2, xOps_mono (callX_ge X n) _ _ _ _ _ _ _ h3, Option.map_eq_some_iff.2 ⟨s3, xOps_mono (callX_ge X n) _ _ _ _ _ _ _ h5, h6⟩⟩
 ·intro h
  obtain ⟨s1, h1, h2⟩ := Option.map_eq_some_iff.1 h
  unfold xRegionT at h1
  split at h1
  ·simp at h1
  ·rename_i hd
   obtain ⟨s2, h3, h4⟩ := Option.bind_eq_some_iff.1 h1
   obtain ⟨s3, h5, h6⟩ := Option.map_eq_some_iff.1 h4
   obtain ⟨n, hn⟩ := xOps_fin _ _ _ _ _ _ _ h3
   obtain ⟨m, hm⟩ := xOps_fin _ _ _ _ _ _ _ h5
   refine ⟨Nat.max n m, ?_⟩
   simp only [xCode]
   refine Option.map_eq_some_iff.2 ⟨s1, ?_, h2⟩
   unfold xRegionT
   rw [if_neg hd]
   exact Option.bind_eq_some_iff.2 ⟨s2, xOps_mono (xcallN_le X (Nat.le_max_left n m)) _ _ _ _ _ _ _ hn, Option.map_eq_some_iff.2 ⟨s3, xOps_mono (xcallN_le X (Nat.le_max_right n m)) _ _ _ _ _ _ _ hm, h6⟩⟩
theorem codeX_ghost (X : XEnv) (T : List Nat) (x : Gho) (c : VCode) (s : XS) : codeX X T (.ghost x c) s = (xGho x s).bind (codeX X T c) := by
 refine ext_some fun r => ?_
 rw [codeX_some]
 constructor
 ·rintro ⟨n, h⟩
  simp only [xCode] at h
  obtain ⟨s1, h1, h2⟩ := Option.bind_eq_some_iff.1 h
  exact Option.bind_eq_some_iff.2 ⟨s1, h1, codeX_some.2 ⟨n, h2⟩⟩
 ·intro h
  obtain ⟨s1, h1, h2⟩ := Option.bind_eq_some_iff.1 h
  obtain ⟨n, hn⟩ := codeX_some.1 h2
  exact ⟨n, by simp only [xCode]; exact Option.bind_eq_some_iff.2 ⟨s1, h1, hn⟩⟩
theorem law_of_X {X : XEnv} (hX : XOK X) {f : Nat} {xs vs : List DV} (hc : DV.clrs xs = xs) (hf : DV.fits xs vs) {d : DV} {B' : Boxs} (hd : d.clr = d) (h : callX X f (xs.map .d) [] = some (.d d, B')) :
  ∃ u A Bv, callV X.env [] f (vs.map .d) [] Ids.none = some ⟨.d u, A, Bv⟩ ∧ d.fit u := by
 obtain ⟨n, hn⟩ := callX_some.1 h
 have h0 : AV.fits (xs.map .d) (vs.map .d) := AV.fits_d hf
 have hre : ∀ j, rown (argRegs 0 (xs.map AV.d)) (argRegs 0 (vs.map AV.d)) j = [] := by
  intro j
  rw [rown_args]
  split
  ·rename_i a b ha hb
   have := AV.own_sub_owns ha hb
   rw [AV.owns_d, ← hc, DV.owns_clr] at this
   exact List.sublist_nil.1 this
  ·rfl
 have hloc : ∀ ℓ, locOwn (argRegs 0 (xs.map AV.d)) [] (argRegs 0 (vs.map AV.d)) [] ℓ = [] := by
  intro ℓ; cases ℓ with
  | reg t => exact hre t
  | box j => simp [locOwn, bown, bget]
 obtain ⟨v, Bv, A', h1, h2, _⟩ := xcallN_ok hX n f _ _ _ _ hn [] (vs.map .d) [] Ids.none (fun _ => False) h0 ⟨rfl, by simp⟩
  ⟨fun ℓ => by rw [hloc]; simp, fun ℓ ℓ' a ha => by rw [hloc] at ha; simp at ha, fun ℓ a ha => by rw [hloc] at ha; simp at ha, fun a ha => by simp at ha⟩ (fun j _ => hre j) (fun a ha => by simp [Ids.none] at ha)
 simp only [AV.fit] at h2
 obtain ⟨y, rfl, h3⟩ := h2
 exact ⟨y, A', Bv, callV_some.2 ⟨n, h1⟩, h3⟩
end Go.Proofs.Ytfiakfiocdfpbaa.VS
namespace Go.Proofs.Ytfiakfiocdfpbaa.VS
open Classical
def xStep (b : Option Bool) (c : XCaller) (lin : Nat → List Nat) (T : List Nat) (d : Bool) (L : Nat) (o : VOper) (os : List VOper) (s : XS) : Option XS :=
 match b with
 | some true => (xOp c lin T d L o s).bind (xOps c lin T d L os)
 | some false => xOps c lin T d L os (xput T s o.dst .und)
 | none => none
def xNext (r : Option XS) (c : XCaller) (lin : Nat → List Nat) (T : List Nat) (d : Bool) (L : Nat) (os : List VOper) : Option XS := r.bind (xOps c lin T d L os)
def xEnd (live : List Nat) (r : Option XS) : Option (Ex × XS) := r.map fun s' => (.normal, ⟨keep s'.r live, s'.B⟩)
def xUnblock (id : Nat) (r : Option (Ex × XS)) : Option (Ex × XS) := r.map fun r => if r.1 = .exit id then (.normal, r.2) else r
noncomputable def xCond (v : Option AV) (X : XEnv) (T : List Nat) (a b : VCode) (s : XS) : Option (Ex × XS) :=
 match v with
 | some (.d (.bool true)) => codeX X T a s
 | some (.d (.bool false)) => codeX X T b s
 | _ => none
def xputO (T : List Nat) (s : XS) (dst : Option Nat) (v : Option AV) : Option XS := v.map fun v => xput T s dst v
def xputC (T : List Nat) (s : XS) (dst : Option Nat) (v : Option AV) : Option XS := v.map fun v => xput T s dst v.clr
def xputD (T : List Nat) (s : XS) (dst : Option Nat) (v : Option DV) : Option XS := v.map fun v => xput T s dst (.d v)
def xsetB (T : List Nat) (s : XS) (dst : Option Nat) (B : Option Boxs) : Option XS := B.map fun B => xput T ⟨s.r, B⟩ dst .und
def xRow (T : List Nat) (dst : Option Nat) (s : XS) (v : Option (List DV)) : Option XS := v.map fun xs => xput T s dst (.d (.sl U xs))
def xPick (T : List Nat) (dst : Option Nat) (s : XS) (a b : VX) (v : Option AV) : Option XS :=
 match v with
 | some (.d (.bool true)) => (xget s.r a).map fun v => xput T (xgive T dst s [a]) dst v
 | some (.d (.bool false)) => (xget s.r b).map fun v => xput T (xgive T dst s [b]) dst v
 | _ => none
def xApp (T : List Nat) (dst : Option Nat) (sz bytes : Nat) (x y : VX) (s : XS) (v w : Option AV) : Option XS :=
 match v, w with
 | some (.d v), some (.d w) => (xappend sz bytes v w).map fun u => xput T ⟨xdrops T s.r (if isLin T dst then [x, y] else [x]), s.B⟩ dst (.d u)
 | _, _ => none
def xBox (T : List Nat) (L : Nat) (dst : Option Nat) (k : Nat) (x : VX) (s : XS) (v : Option AV) : Option XS :=
 v.bind fun v => if bfree s.B (L + k) ∧ v.cells.all AV.isCell ∧ v.safe (L + k) then some (xput T ⟨xdrop T s.r x, s.B.set (L + k) (some v.cells)⟩ dst (.ptr (L + k) 0)) else none
def xTk2 (T : List Nat) (dst : Option Nat) (sz n : Nat) (g : Tag) (xs : List DV) (k : Nat) (s : XS) (e : Option DV) : Option XS :=
 e.bind fun e => if e.cells.length = sz ∧ sz ≠ 0 then some (xput T (if T.contains n then ⟨(n, .d (.sl g (xs.set k e.clr))) :: s.r, s.B⟩ else s) dst (.ep e.cells)) else none
def xTk (T : List Nat) (dst : Option Nat) (sz n : Nat) (s : XS) (v w : Option AV) : Option XS :=
 match v, w with
 | some (.d (.sl g xs)), some (.d (.int _ k)) => if 0 ≤ k then xTk2 T dst sz n g xs k.toNat s (xs[k.toNat]?) else none
 | _, _ => none
def xLoad (T : List Nat) (d : Bool) (L : Nat) (dst : Option Nat) (agg : Bool) (sz : Nat) (x : VX) (s : XS) (a : Option AV) : Option XS :=
 match a with
 | some (.ep cs) => (cut agg sz cs).map fun v => xput T (xgive T dst s [x]) dst (.d v)
 | some (.ptr b off) => if d ∧ L ≤ b then none else (loadBox s.B agg sz b off).map fun v => xput T (if isLin T dst then ⟨s.r, clrCells s.B b off (if agg then sz else 1)⟩ else s) dst v
 | _ => none
def xStore (T : List Nat) (d : Bool) (L : Nat) (dst : Option Nat) (init : Bool) (sz : Nat) (x : VX) (s : XS) (a v : Option AV) : Option XS :=
 match a, v with
 | some (.ptr b off), some v => if badStore d init L b then none else (xstoreBox s.B sz b off v).map fun B => xput T ⟨xdrop T s.r x, B⟩ dst .und
 | _, _ => none
def xStoreN (T : List Nat) (d : Bool) (L : Nat) (dst : Option Nat) (sz : Nat) (x : VX) (av : List Nat) (s : XS) (a v : Option AV) : Option XS :=
 match a, v with
 | some (.ptr b off), some v => if badStore d false L b || !farAll s.r b av then none else (xstoreBox s.B sz b off v).map fun B => xput T ⟨xdrop T s.r x, B⟩ dst .und
 | _, _ => none
def farV (b : Nat) : Option AV → Bool
 | some (.ptr b' _) => b' != b
 | _ => false
theorem farAll_nil (r : List (Nat × AV)) (b : Nat) : farAll r b [] = true := _root_.id rfl
theorem farAll_cons (r : List (Nat × AV)) (b t : Nat) (av : List Nat) : farAll r b (t :: av) = (farV b (lk r t) && farAll r b av) := by
 unfold farAll; simp only [List.all_cons]; congr 1
theorem farV_ptr (b b' off : Nat) : farV b (some (.ptr b' off)) = (b' != b) := _root_.id rfl
def xExt (T : List Nat) (dst : Option Nat) (n i : Nat) (s : XS) (v : Option AV) : Option XS :=
 match v with
 | some (.ag true vs) => (vs[i]?).map fun v => xput T s dst v.clr
 | some (.d (.tup vs)) => (vs[i]?).map fun v => xput T (if isLin T dst && T.contains n then ⟨(n, .d (.tup (vs.set i v.clr))) :: s.r, s.B⟩ else s) dst (.d v)
 | _ => none
def xMk (T : List Nat) (d : Bool) (L : Nat) (dst : Option Nat) (k sz bytes : Nat) (z : DV) (s : XS) (v : Option AV) : Option XS :=
 match v with
 | some (.d (.int _ n)) =>
  if d = false ∧ bfree s.B (L + k) ∧ 0 ≤ n ∧ n.toNat * bytes ≤ 140737488355328 ∧ n < 9223372036854775808 ∧ z.cells.length = sz ∧ z.cells.all DV.isCell then
   some (xput T ⟨s.r, s.B.set (L + k) (some (((List.replicate n.toNat z.cn).flatMap DV.cells).map .d))⟩ dst (.bsl [] (isAgg z) (L + k) sz n.toNat)) else none
 | _ => none
def xIso (c : XCaller) (T : List Nat) (dst : Option Nat) (s : XS) (f : Option AV) (vs : Option (List AV)) : Option XS :=
 match f, vs with
 | some (.fn k caps), some vs =>
  match datas vs, caps with
  | some _, [] =>
   match c k (xpass [] 0 vs) [] with
   | some (.d v, _) => some (xput T s dst (.d v))
   | _ => none
  | _, _ => none
 | _, _ => none
def xIso2 (T : List Nat) (dst : Option Nat) (s : XS) (ds : Option (List DV)) (r : Option (AV × Boxs)) : Option XS :=
 match ds with
 | some _ =>
  match r with
  | some (.d v, _) => some (xput T s dst (.d v))
  | _ => none
 | none => none
def xN2 (T : List Nat) (dst : Option Nat) (s : XS) (xs : List VX) (b : Bool) (r : Option (AV × Boxs)) : Option XS :=
 if b then
  match r with
  | some (v, B) => some (xput T ⟨xdrops T s.r xs, B⟩ dst v)
  | none => none
 else none
def xN (c : XCaller) (lin : Nat → List Nat) (T : List Nat) (dst : Option Nat) (s : XS) (args : List VX) (f : Option AV) (vs : Option (List AV)) : Option XS :=
 match f, vs with
 | some (.fn k caps), some vs => xN2 T dst s (xpassed (lin k) 0 args) (linDistinct T (xpassed (lin k) 0 args)) (c k (xpass (lin k) 0 vs ++ caps) s.B)
 | _, _ => none
def xT2 (T : List Nat) (dst : Option Nat) (thaw : Bool) (s : XS) (r : Option (AV × Boxs)) : Option XS :=
 match r with
 | some (.d v, _) => xafterT T thaw s dst v
 | _ => none
def xT1 (c : XCaller) (T : List Nat) (dst : Option Nat) (thaw : Bool) (s : XS) (k : Nat) (ds : Option (List DV)) : Option XS := ds.bind fun ds => xT2 T dst thaw s (c k (xpass [] 0 (ds.map .d)) [])
def xT (c : XCaller) (T : List Nat) (d : Bool) (dst : Option Nat) (thaw : Bool) (s : XS) (f : Option AV) (vs : Option (List AV)) : Option XS :=
 match f, vs with
 | some (.fn k []), some vs => if d = false ∨ thaw = false then xT1 c T dst thaw s k (frzL (AV.frz s.B) vs) else none
 | _, _ => none
def frzO (d : Option DV) (ds : Option (List DV)) : Option (List DV) := d.bind fun d => ds.map (d :: ·)
def consO (v : Option AV) (vs : Option (List AV)) : Option (List AV) := match v, vs with | some v, some vs => some (v :: vs) | _, _ => none
def consD (v : DV) (vs : Option (List DV)) : Option (List DV) := vs.map (v :: ·)
def dO (a : Option DV) : Option AV := a.map .d
def eNil (v : Option AV) : Option AV := match v with | some (.ptr i o) => some (.ptr i o) | some (.ep cs) => some (.ep cs) | some (.fn f c) => some (.fn f c) | _ => none
def eBin (op : BinOp) (x y : Option AV) : Option AV := match x, y with | some (.d a), some (.d b) => (evBin op a b).map .d | _, _ => none
def eEqAgg (neg : Bool) (ks : List Nat) (x y : Option AV) : Option AV := match x, y with | some (.d (.agg a)), some (.d (.agg b)) => (eqCells ks a b).map fun e => .d (.bool (if neg then !e else e)) | _, _ => none
def eEqB (neg : Bool) (x y : Option AV) : Option AV := match x, y with | some (.d (.bool a)), some (.d (.bool b)) => some (.d (.bool (if neg then !(a == b) else (a == b)))) | _, _ => none
def eNot (x : Option AV) : Option AV := match x with | some (.d (.bool b)) => some (.d (.bool !b)) | _ => none
def eConv (k : IntKind) (x : Option AV) : Option AV := match x with | some (.d (.int _ n)) => some (.d (.int k (k.wrap n))) | _ => none
def eRune (x : Option AV) : Option AV := match x with | some (.d (.int _ n)) => some (.d (.str (Utf8.encode n))) | _ => none
def eBytes (x : Option AV) : Option AV := match x with | some (.d (.sl _ xs)) => (bytesOf xs).map fun bs => .d (.str ⟨bs.toArray⟩) | _ => none
def eIndex (x i : Option AV) : Option AV := match x, i with | some (.d (.str s)), some (.d (.int _ n)) => if 0 ≤ n then (byteAt s n.toNat).map fun b => .d (.int .u8 b) else none | _, _ => none
def eAddr (sz : Nat) (x i : Option AV) : Option AV :=
 match x, i with
 | some (.d (.sl _ xs)), some (.d (.int _ n)) => if 0 ≤ n then (xs[n.toNat]?).bind fun e => if e.cells.length = sz ∧ sz ≠ 0 then some (.ep e.cells) else none else none
 | some (.bsl _ _ b sz' m), some (.d (.int _ n)) => if sz' = sz ∧ 0 ≤ n ∧ n < m then some (.ptr b (n.toNat * sz)) else none
 | some (.tsl _ b sz' m), some (.d (.int _ n)) => if sz' = sz ∧ 0 ≤ n ∧ n < m then some (.ptr b (n.toNat * sz)) else none
 | _, _ => none
def eElem (sz : Nat) (e : Option DV) : Option AV := e.bind fun e => if e.cells.length = sz ∧ sz ≠ 0 then some (.ep e.cells) else none
def eArr (sz m : Nat) (x i : Option AV) : Option AV :=
 match x, i with
 | some (.ptr b o), some (.d (.int _ n)) => if 0 ≤ n ∧ n < m then some (.ptr b (o + n.toNat * sz)) else none
 | some (.ep cs), some (.d (.int _ n)) => if 0 ≤ n ∧ n < m ∧ n.toNat * sz ≤ cs.length then some (.ep (cs.drop (n.toNat * sz))) else none
 | _, _ => none
def eField (off : Nat) (x : Option AV) : Option AV := match x with | some (.ptr b o) => some (.ptr b (o + off)) | some (.ep cs) => if off ≤ cs.length then some (.ep (cs.drop off)) else none | _ => none
def eLen (str : Bool) (x : Option AV) : Option AV :=
 match str, x with
 | true, some (.d (.str s)) => some (.d (.int .i64 s.size))
 | false, some (.d (.sl _ xs)) => some (.d (.int .i64 xs.length))
 | false, some (.bsl _ _ _ _ n) => some (.d (.int .i64 n))
 | false, some (.tsl _ _ _ n) => some (.d (.int .i64 n))
 | _, _ => none
def eMax (x y : Option AV) : Option AV := match x, y with | some (.d (.int k a)), some (.d (.int k' b)) => if k = k' then some (.d (.int k (if b > a then b else a))) else none | _, _ => none
def eSlice (str : Bool) (sz : Nat) (x : Option AV) (lo hi : Option (Option AV)) : Option AV :=
 match str, x, lo, hi with
 | true, some (.d (.str s)), some lo, some hi => (sliceHi s.size hi).bind fun h => (sliceLo h lo).map fun l => .d (.str (s.extract l h))
 | false, some (.d (.sl g xs)), some lo, some hi => if xs.all (fun e => e.cells.length = sz) then (sliceHi xs.length hi).bind fun h => (sliceLo h lo).map fun l => .d (.sl (if g = .nil then .nil else .sub) ((xs.take h).drop l)) else none
 | _, _, _, _ => none
def eCells (g : VX → Option AV) (cs : List DV) (off size : Nat) (r : List (Nat × Nat × VX)) (v : Option AV) : Option (List DV) :=
 match v with
 | some (.d v) => if v.cells.length = size ∧ off + size ≤ cs.length ∧ v.cells.all DV.isCell then buildCells g (splice cs off v.cells) r else none
 | _ => none
def eRow (g : VX → Option AV) (sz : Nat) (cs : List DV) (i : Nat) (r : List (Nat × VX)) (v : Option AV) : Option (List DV) :=
 match v with
 | some (.d v) => if v.cells.length = sz ∧ i < cs.length ∧ v.cells.all DV.isCell then buildRow g sz (cs.set i v) r else none
 | _ => none
def xCS2 (T : List Nat) (dst : Option Nat) (s : XS) (b : Nat) (q : Option (AV × Boxs)) : Option XS :=
 match q with
 | some (.d v, [some cs']) => (datas cs').map fun _ => xput T ⟨s.r, s.B.set b (some (AV.clrs cs'))⟩ dst (.d v)
 | _ => none
def xCS (c : XCaller) (T : List Nat) (dst : Option Nat) (s : XS) (f : Option AV) (as : Option (List AV)) (q : Option AV) : Option XS :=
 match f, as, q with
 | some (.fn k []), some (.ptr b off :: vs), some (.ptr b' _) => if b ≠ b' then none else (datas vs).bind fun _ => (bget s.B b).bind fun cs => (datas cs).bind fun _ => xCS2 T dst s b (c k (.ptr 0 off :: xpass [] 0 vs) [some (AV.clrs cs)])
 | _, _, _ => none
def xLoadS (T : List Nat) (d : Bool) (L : Nat) (dst : Option Nat) (agg : Bool) (sz : Nat) (s : XS) (a q : Option AV) : Option XS :=
 match a, q with
 | some (.ptr b off), some (.ptr b' _) => if b = b' ∨ (d ∧ L ≤ b) then none else xputO T (if isLin T dst then ⟨s.r, clrCells s.B b off (if agg then sz else 1)⟩ else s) dst (loadBox s.B agg sz b off)
 | _, _ => none
def xTl (c : XCaller) (lin : Nat → List Nat) (T : List Nat) (L : Nat) (live : List Nat) (tl : List VOper) (o : Option XS) : Option (Ex × XS) :=
 match o with
 | some s => xEnd live (xOps c lin T false L tl s)
 | none => none
theorem z_tl (c : XCaller) (lin : Nat → List Nat) (T : List Nat) (L : Nat) (live : List Nat) (tl : List VOper) (s : XS) : xTl c lin T L live tl (some s) = xEnd live (xOps c lin T false L tl s) := _root_.id rfl
theorem z_regionT (X : XEnv) (T : List Nat) (na : Nat) (live : List Nat) (pre tl : List VOper) (h : drawOK pre = true) (r : List (Nat × AV)) (B : Boxs) :
  codeX X T (.regionT na live pre tl) ⟨r, B⟩ = xTl (callX X) X.lin T B.length live tl (xOps (callX X) X.lin T true B.length pre ⟨r, B ++ List.replicate na none⟩) := by
 rw [codeX_regionT]
 unfold xRegionT
 rw [if_neg (by rw [h]; simp)]
 simp only
 cases xOps (callX X) X.lin T true B.length pre ⟨r, B ++ List.replicate na none⟩ with
 | none => rfl
 | some s =>
  simp only [Option.bind_some, z_tl]
  cases xOps (callX X) X.lin T false B.length tl s <;> rfl
def xAp1 (T : List Nat) (d : Bool) (dst : Option Nat) (sz bytes : Nat) (x v : VX) (t9 : Nat) (s : XS) (a b c e : Option AV) : Option XS :=
 match a, b, c, e with
 | some (.d (.sl g xs)), some (.d (.sl _ [z])), some (.d (.int _ n)), some (.d w) =>
  if d = false ∧ n = xs.length ∧ z.cells.length = sz ∧ z.cells.all DV.isCell = true ∧ w.cells.length = sz ∧ w.cells.all DV.isCell = true ∧ lk s.r t9 = none then
   (xappend sz bytes (.sl g xs) (.sl .sub [w])).map fun u => xput T ⟨xdrops T s.r (if isLin T dst then [x, v] else [x]), s.B⟩ dst (.d u)
  else none
 | _, _, _, _ => none
theorem z_ops (c : XCaller) (lin : Nat → List Nat) (T : List Nat) (d : Bool) (L : Nat) (o : VOper) (os : List VOper) (s : XS) : xOps c lin T d L (o :: os) s = xStep (wants s.r o.guard) c lin T d L o os s := _root_.id rfl
theorem z_nil (c : XCaller) (lin : Nat → List Nat) (T : List Nat) (d : Bool) (L : Nat) (s : XS) : xOps c lin T d L [] s = some s := _root_.id rfl
theorem z_true (c : XCaller) (lin : Nat → List Nat) (T : List Nat) (d : Bool) (L : Nat) (o : VOper) (os : List VOper) (s : XS) : xStep (some true) c lin T d L o os s = xNext (xOp c lin T d L o s) c lin T d L os := _root_.id rfl
theorem z_false (c : XCaller) (lin : Nat → List Nat) (T : List Nat) (d : Bool) (L : Nat) (o : VOper) (os : List VOper) (s : XS) : xStep (some false) c lin T d L o os s = xOps c lin T d L os (xput T s o.dst .und) := _root_.id rfl
theorem z_next (s : XS) (c : XCaller) (lin : Nat → List Nat) (T : List Nat) (d : Bool) (L : Nat) (os : List VOper) : xNext (some s) c lin T d L os = xOps c lin T d L os s := _root_.id rfl
theorem z_region (X : XEnv) (T : List Nat) (na : Nat) (live : List Nat) (ops : List VOper) (r : List (Nat × AV)) (B : Boxs) :
  codeX X T (.region false na live ops) ⟨r, B⟩ = xEnd live (xOps (callX X) X.lin T false B.length ops ⟨r, B ++ List.replicate na none⟩) := by
 rw [codeX_region]; simp [xRegion, xEnd, Function.comp_def]
theorem z_draw (X : XEnv) (T : List Nat) (na : Nat) (live : List Nat) (ops : List VOper) (h : drawOK ops = true) (r : List (Nat × AV)) (B : Boxs) :
  codeX X T (.region true na live ops) ⟨r, B⟩ = xEnd live (xOps (callX X) X.lin T true B.length ops ⟨r, B ++ List.replicate na none⟩) := by
 rw [codeX_region]; simp [xRegion, xEnd, Function.comp_def, h]
theorem z_end (live : List Nat) (r : List (Nat × AV)) (B : Boxs) : xEnd live (some ⟨r, B⟩) = some (.normal, ⟨keep r live, B⟩) := _root_.id rfl
theorem z_block (X : XEnv) (T : List Nat) (id : Nat) (c : VCode) (s : XS) : codeX X T (.block id c) s = xUnblock id (codeX X T c s) := codeX_block X T id c s
theorem z_unblock (id : Nat) (e : Ex) (s : XS) : xUnblock id (some (e, s)) = some (if e = .exit id then (.normal, s) else (e, s)) := _root_.id rfl
theorem z_cond (X : XEnv) (T : List Nat) (x : VX) (a b : VCode) (s : XS) : codeX X T (.cond x a b) s = xCond (xget s.r x) X T a b s := by rw [codeX_cond]; rfl
theorem z_ctrue (X : XEnv) (T : List Nat) (a b : VCode) (s : XS) : xCond (some (.d (.bool true))) X T a b s = codeX X T a s := _root_.id rfl
theorem z_cfalse (X : XEnv) (T : List Nat) (a b : VCode) (s : XS) : xCond (some (.d (.bool false))) X T a b s = codeX X T b s := _root_.id rfl
theorem z_ghost (X : XEnv) (T : List Nat) (x : Gho) (c : VCode) (s : XS) : codeX X T (.ghost x c) s = (xGho x s).bind (codeX X T c) := codeX_ghost X T x c s
theorem xThen_normal (s : XS) (k : XS → Option (Ex × XS)) : xThen (some (.normal, s)) k = k s := _root_.id rfl
theorem xThen_ret (s : XS) (k : XS → Option (Ex × XS)) : xThen (some (.ret, s)) k = some (.ret, s) := _root_.id rfl
theorem xThen_exit (id : Nat) (s : XS) (k : XS → Option (Ex × XS)) : xThen (some (.exit id, s)) k = some (.exit id, s) := _root_.id rfl
section
variable (c : XCaller) (lin : Nat → List Nat) (T : List Nat) (d : Bool) (L : Nat) (dst : Option Nat) (g : Option (Nat × Bool)) (af : List Nat) (s : XS)
theorem z_move (x : VX) : xOp c lin T d L ⟨dst, .move x, g, af⟩ s = xputO T (xgive T dst s [x]) dst (xget s.r x) := _root_.id rfl
theorem z_build (z : List DV) (ps : List (Nat × Nat × VX)) : xOp c lin T d L ⟨dst, .build z ps, g, af⟩ s = xputO T (xgive T dst s (ps.map fun q => q.2.2)) dst ((buildCells (xget s.r) (z.map DV.cn1) ps).map fun cs => .d (.agg cs)) := by
 simp only [xOp, xputO, Option.map_map]; rfl
theorem z_nilCheck (x : VX) : xOp c lin T d L ⟨dst, .nilCheck x, g, af⟩ s = xputC T s dst (evP s.r (.nilCheck x)) := _root_.id rfl
theorem z_bin (op : BinOp) (x y : VX) : xOp c lin T d L ⟨dst, .bin op x y, g, af⟩ s = xputC T s dst (evP s.r (.bin op x y)) := _root_.id rfl
theorem z_eqAgg (neg : Bool) (ks : List Nat) (x y : VX) : xOp c lin T d L ⟨dst, .eqAgg neg ks x y, g, af⟩ s = xputC T s dst (evP s.r (.eqAgg neg ks x y)) := _root_.id rfl
theorem z_eqB (neg : Bool) (x y : VX) : xOp c lin T d L ⟨dst, .eqB neg x y, g, af⟩ s = xputC T s dst (evP s.r (.eqB neg x y)) := _root_.id rfl
theorem z_not (x : VX) : xOp c lin T d L ⟨dst, .not x, g, af⟩ s = xputC T s dst (evP s.r (.not x)) := _root_.id rfl
theorem z_conv (k : Conv) (x : VX) : xOp c lin T d L ⟨dst, .conv k x, g, af⟩ s = xputC T s dst (evP s.r (.conv k x)) := _root_.id rfl
theorem z_index (x y : VX) : xOp c lin T d L ⟨dst, .index x y, g, af⟩ s = xputC T s dst (evP s.r (.index x y)) := _root_.id rfl
theorem z_indexAddr (sz : Nat) (n : Nat) (y : VX) : xOp c lin T d L ⟨dst, .indexAddr sz none (.t n) y, g, af⟩ s = if isLin T dst then xTk T dst sz n s (lk s.r n) (xget s.r y) else xputC T s dst (evP s.r (.indexAddr sz none (.t n) y)) := by
 simp only [xOp, xIndexAddr]
 cases hl : isLin T dst with
 | true => rfl
 | false => rfl
theorem z_indexAddrA (sz m : Nat) (x y : VX) : xOp c lin T d L ⟨dst, .indexAddr sz (some m) x y, g, af⟩ s = xputC T s dst (evP s.r (.indexAddr sz (some m) x y)) := by
 simp only [xOp, xIndexAddr]
 cases hl : isLin T dst <;> cases x <;> rfl
theorem z_indexAddrC (sz : Nat) (v : AV) (y : VX) : xOp c lin T d L ⟨dst, .indexAddr sz none (.c v) y, g, af⟩ s = xputC T s dst (evP s.r (.indexAddr sz none (.c v) y)) := by
 simp only [xOp, xIndexAddr]
 cases hl : isLin T dst <;> rfl
theorem z_fieldAddr (off : Nat) (x : VX) : xOp c lin T d L ⟨dst, .fieldAddr off x, g, af⟩ s = xputC T s dst (evP s.r (.fieldAddr off x)) := _root_.id rfl
theorem z_slice (str : Bool) (sz : Nat) (x : VX) (lo hi : Option VX) : xOp c lin T d L ⟨dst, .slice str sz x lo hi, g, af⟩ s = xputC T s dst (evP s.r (.slice str sz x lo hi)) := _root_.id rfl
theorem z_makeFunc (f : Nat) (cs : List VX) : xOp c lin T d L ⟨dst, .makeFunc f cs, g, af⟩ s = xputC T s dst (evP s.r (.makeFunc f cs)) := _root_.id rfl
theorem z_len (str : Bool) (x : VX) : xOp c lin T d L ⟨dst, .len str x, g, af⟩ s = xputC T s dst (evP s.r (.len str x)) := _root_.id rfl
theorem z_max (x y : VX) : xOp c lin T d L ⟨dst, .max x y, g, af⟩ s = xputC T s dst (evP s.r (.max x y)) := _root_.id rfl
theorem z_putC (v : AV) : xputC T s dst (some v) = some (xput T s dst v.clr) := _root_.id rfl
theorem z_put (v : AV) : xputO T s dst (some v) = some (xput T s dst v) := _root_.id rfl
theorem z_xput (r : List (Nat × AV)) (B : Boxs) (n : Nat) (v : AV) : xput T ⟨r, B⟩ (some n) v = ⟨(n, if T.contains n then v else v.clr) :: r, B⟩ := _root_.id rfl
theorem z_xput_none (v : AV) : xput T s none v = s := _root_.id rfl
theorem z_give (r : List (Nat × AV)) (B : Boxs) (xs : List VX) : xgive T dst ⟨r, B⟩ xs = if isLin T dst then ⟨xdrops T r xs, B⟩ else ⟨r, B⟩ := _root_.id rfl
theorem z_alloc (k : Nat) (z : List DV) : xOp c lin T d L ⟨dst, .alloc k z, g, af⟩ s = if bfree s.B (L + k) ∧ z.all DV.isCell then some (xput T ⟨s.r, s.B.set (L + k) (some (z.map fun z => .d z.cn1))⟩ dst (.ptr (L + k) 0)) else none := _root_.id rfl
theorem z_allocE (z : List DV) : xOp c lin T d L ⟨dst, .allocE z, g, af⟩ s = if d = false ∧ z.all DV.isCell then some (xput T ⟨s.r, s.B ++ [some (z.map fun z => AV.d z.cn1)]⟩ dst (.ptr s.B.length 0)) else none := _root_.id rfl
theorem z_pick (x a b : VX) : xOp c lin T d L ⟨dst, .pick x a b, g, af⟩ s = xPick T dst s a b (xget s.r x) := _root_.id rfl
theorem z_append (sz bytes : Nat) (x y : VX) : xOp c lin T d L ⟨dst, .append sz bytes x y, g, af⟩ s = xApp T dst sz bytes x y s (xget s.r x) (xget s.r y) := _root_.id rfl
theorem z_box (k : Nat) (x : VX) : xOp c lin T d L ⟨dst, .box k x, g, af⟩ s = xBox T L dst k x s (xget s.r x) := _root_.id rfl
theorem z_load (agg : Bool) (sz : Nat) (a : VX) : xOp c lin T d L ⟨dst, .load agg sz a, g, af⟩ s = xLoad T d L dst agg sz a s (xget s.r a) := _root_.id rfl
theorem z_storeN (sz : Nat) (a x : VX) (av : List Nat) : xOp c lin T d L ⟨dst, .storeN sz a x av, g, af⟩ s = xStoreN T d L dst sz x av s (xget s.r a) (xget s.r x) := _root_.id rfl
theorem z_store (init : Bool) (sz : Nat) (a x : VX) : xOp c lin T d L ⟨dst, .store init sz a x, g, af⟩ s = xStore T d L dst init sz x s (xget s.r a) (xget s.r x) := _root_.id rfl
theorem z_extract (n i : Nat) : xOp c lin T d L ⟨dst, .extract (.t n) i, g, af⟩ s = xExt T dst n i s (lk s.r n) := _root_.id rfl
theorem z_makeSlice (k sz bytes : Nat) (z : DV) (x : VX) : xOp c lin T d L ⟨dst, .makeSlice k sz bytes z x, g, af⟩ s = xMk T d L dst k sz bytes z s (xget s.r x) := _root_.id rfl
theorem z_buildSlice (sz : Nat) (z : DV) (len : Nat) (ps : List (Nat × VX)) : xOp c lin T d L ⟨dst, .buildSlice sz z len ps, g, af⟩ s = if z.cells.length = sz ∧ z.cells.all DV.isCell ∧ len * sz ≤ 16777216 ∧ len ≤ 16777216 then xRow T dst (xgive T dst s (ps.map fun q => q.2)) (buildRow (xget s.r) sz (List.replicate len z.cn) ps) else none := _root_.id rfl
theorem z_iso (f : VX) (args : List VX) : xOp c lin T d L ⟨dst, .call true f args, g, af⟩ s = xIso c T dst s (xget s.r f) (xgets s.r args) := by
 simp only [xOp, xIso, if_true] <;> rfl
theorem z_ncall (f : VX) (args : List VX) : xOp c lin T d L ⟨dst, .call false f args, g, af⟩ s = xN c lin T dst s args (xget s.r f) (xgets s.r args) := by
 simp only [xOp, xN, xN2, Bool.false_eq_true, if_false] <;> rfl
theorem z_callT (th : Bool) (f : VX) (args : List VX) : xOp c lin T d L ⟨dst, .callT th f args, g, af⟩ s = xT c T d dst th s (xget s.r f) (xgets s.r args) := by
 simp only [xOp, xT, xT1]
 cases h1 : xget s.r f with
 | none => rfl
 | some a =>
  cases a with
  | fn k caps =>
   cases caps with
   | nil =>
    cases h2 : xgets s.r args with
    | none => rfl
    | some vs =>
     simp only
     split
     ·cases frzL (AV.frz s.B) vs with
      | none => rfl
      | some ds =>
       show (match c k (xpass [] 0 (ds.map .d)) [] with | some (.d v, _) => xafterT T th s dst v | _ => none) = xT2 T dst th s (c k (xpass [] 0 (ds.map .d)) [])
       generalize c k (xpass [] 0 (ds.map .d)) [] = q
       cases q with
       | none => rfl
       | some q => obtain ⟨v, B⟩ := q; cases v <;> rfl
     ·rfl
   | cons _ _ => cases xgets s.r args <;> rfl
  | _ => cases xgets s.r args <;> rfl
theorem z_append1 (sz bytes : Nat) (x y ix v : VX) (t9 : Nat) : xOp c lin T d L ⟨dst, .append1 sz bytes x y ix v t9, g, af⟩ s = xAp1 T d dst sz bytes x v t9 s (xget s.r x) (xget s.r y) (xget s.r ix) (xget s.r v) := _root_.id rfl
theorem w_ap1 (sz bytes : Nat) (x v : VX) (t9 : Nat) (gg gy : Tag) (xs : List DV) (z w : DV) (k : IntKind) (n : Int) : xAp1 T d dst sz bytes x v t9 s (some (.d (.sl gg xs))) (some (.d (.sl gy [z]))) (some (.d (.int k n))) (some (.d w)) =
  if d = false ∧ n = xs.length ∧ z.cells.length = sz ∧ z.cells.all DV.isCell = true ∧ w.cells.length = sz ∧ w.cells.all DV.isCell = true ∧ lk s.r t9 = none then
   (xappend sz bytes (.sl gg xs) (.sl .sub [w])).map fun u => xput T ⟨xdrops T s.r (if isLin T dst then [x, v] else [x]), s.B⟩ dst (.d u)
  else none := _root_.id rfl
theorem z_callS (cc : Nat) (f : VX) (args : List VX) : xOp c lin T d L ⟨dst, .callS cc f args, g, af⟩ s = xCS c T dst s (xget s.r f) (xgets s.r args) (lk s.r cc) := _root_.id rfl
theorem z_loadS (agg : Bool) (sz : Nat) (a : VX) (cc : Nat) : xOp c lin T d L ⟨dst, .loadS agg sz a cc, g, af⟩ s = xLoadS T d L dst agg sz s (xget s.r a) (lk s.r cc) := _root_.id rfl
theorem w_CS (k b off o' : Nat) (vs : List AV) : xCS c T dst s (some (.fn k [])) (some (.ptr b off :: vs)) (some (.ptr b o')) = (datas vs).bind fun _ => (bget s.B b).bind fun cs => (datas cs).bind fun _ => xCS2 T dst s b (c k (.ptr 0 off :: xpass [] 0 vs) [some (AV.clrs cs)]) := by simp only [xCS, ne_eq, not_true_eq_false, if_false]
theorem w_CS2 (r : List (Nat × AV)) (B : Boxs) (b : Nat) (v : DV) (cs : List AV) : xCS2 T dst ⟨r, B⟩ b (some (.d v, [some cs])) = (datas cs).map fun _ => xput T ⟨r, B.set b (some (AV.clrs cs))⟩ dst (.d v) := _root_.id rfl
theorem w_loadS (agg : Bool) (sz b off b' o' : Nat) : xLoadS T d L dst agg sz s (some (.ptr b off)) (some (.ptr b' o')) = if b = b' ∨ (d ∧ L ≤ b) then none else xputO T (if isLin T dst then ⟨s.r, clrCells s.B b off (if agg then sz else 1)⟩ else s) dst (loadBox s.B agg sz b off) := _root_.id rfl
theorem w_T (k : Nat) (th : Bool) (vs : List AV) : xT c T false dst th s (some (.fn k [])) (some vs) = xT1 c T dst th s k (frzL (AV.frz s.B) vs) := by simp only [xT, true_or, if_true]
theorem w_TD (k : Nat) (vs : List AV) : xT c T true dst false s (some (.fn k [])) (some vs) = xT1 c T dst false s k (frzL (AV.frz s.B) vs) := by simp only [xT, or_true, if_true]
theorem w_T1 (k : Nat) (th : Bool) (ds : List DV) : xT1 c T dst th s k (some ds) = xT2 T dst th s (c k (xpass [] 0 (ds.map .d)) []) := _root_.id rfl
theorem w_T2 (th : Bool) (v : DV) (B : Boxs) : xT2 T dst th s (some (.d v, B)) = xafterT T th s dst v := _root_.id rfl
theorem w_aftF (v : DV) : xafterT T false s dst v = if v.allUT then some (xput T s dst (.d v)) else none := by simp [xafterT]
theorem w_aftT (r : List (Nat × AV)) (B : Boxs) (v : DV) : xafterT T true ⟨r, B⟩ dst v = if v.allUT then some (xput T ⟨r, B ++ (v.clr.thaw B.length).2⟩ dst (v.clr.thaw B.length).1) else none := by simp [xafterT]
theorem w_pick (a b : VX) (v : Bool) : xPick T dst s a b (some (.d (.bool v))) = if v then xputO T (xgive T dst s [a]) dst (xget s.r a) else xputO T (xgive T dst s [b]) dst (xget s.r b) := by cases v <;> rfl
theorem w_app (sz bytes : Nat) (x y : VX) (v w : DV) : xApp T dst sz bytes x y s (some (.d v)) (some (.d w)) = xputD T ⟨xdrops T s.r (if isLin T dst then [x, y] else [x]), s.B⟩ dst (xappend sz bytes v w) := _root_.id rfl
theorem w_box (k : Nat) (x : VX) (v : AV) : xBox T L dst k x s (some v) = if bfree s.B (L + k) ∧ v.cells.all AV.isCell ∧ v.safe (L + k) then some (xput T ⟨xdrop T s.r x, s.B.set (L + k) (some v.cells)⟩ dst (.ptr (L + k) 0)) else none := _root_.id rfl
theorem w_load_ep (agg : Bool) (sz : Nat) (x : VX) (cs : List DV) : xLoad T d L dst agg sz x s (some (.ep cs)) = if isLin T dst then xputO T (xgive T dst s [x]) dst ((cut agg sz cs).map .d) else xputC T s dst ((cut agg sz cs).map .d) := by
 simp only [xLoad, xputC, xputO, Option.map_map]
 cases hl : isLin T dst with
 | true => rfl
 | false =>
  simp only [Bool.false_eq_true, if_false]
  cases cut agg sz cs with
  | none => rfl
  | some v =>
   simp only [Option.map_some, Function.comp, xgive, hl, Bool.false_eq_true, if_false]
   cases dst with
   | none => rfl
   | some n =>
    simp only [isLin] at hl
    simp only [xput, hl, Bool.false_eq_true, if_false, AV.clr, DV.clr_clr]
theorem w_tk (sz n : Nat) (g : Tag) (xs : List DV) (kd : IntKind) (k : Int) : xTk T dst sz n s (some (.d (.sl g xs))) (some (.d (.int kd k))) = if 0 ≤ k then xTk2 T dst sz n g xs k.toNat s (xs[k.toNat]?) else none := _root_.id rfl
theorem w_tk2 (sz n : Nat) (g : Tag) (xs : List DV) (k : Nat) (e : DV) : xTk2 T dst sz n g xs k s (some e) = if e.cells.length = sz ∧ sz ≠ 0 then some (xput T (if T.contains n then ⟨(n, .d (.sl g (xs.set k e.clr))) :: s.r, s.B⟩ else s) dst (.ep e.cells)) else none := _root_.id rfl
theorem w_load (agg : Bool) (sz b off : Nat) (x : VX) : xLoad T d L dst agg sz x s (some (.ptr b off)) = if d ∧ L ≤ b then none else xputO T (if isLin T dst then ⟨s.r, clrCells s.B b off (if agg then sz else 1)⟩ else s) dst (loadBox s.B agg sz b off) := _root_.id rfl
theorem w_storeN (sz : Nat) (x : VX) (av : List Nat) (b off : Nat) (v : AV) : xStoreN T d L dst sz x av s (some (.ptr b off)) (some v) = if badStore d false L b || !farAll s.r b av then none else xsetB T ⟨xdrop T s.r x, s.B⟩ dst (xstoreBox s.B sz b off v) := _root_.id rfl
theorem w_store (init : Bool) (sz : Nat) (x : VX) (b off : Nat) (v : AV) : xStore T d L dst init sz x s (some (.ptr b off)) (some v) = if badStore d init L b then none else xsetB T ⟨xdrop T s.r x, s.B⟩ dst (xstoreBox s.B sz b off v) := _root_.id rfl
theorem w_setB (r : List (Nat × AV)) (B B' : Boxs) : xsetB T ⟨r, B⟩ dst (some B') = some (xput T ⟨r, B'⟩ dst .und) := _root_.id rfl
theorem w_ext (n i : Nat) (vs : List DV) : xExt T dst n i s (some (.d (.tup vs))) = xputD T (if isLin T dst && T.contains n then ⟨(n, .d (.tup (vs.set i ((vs[i]?).getD (.bool false)).clr))) :: s.r, s.B⟩ else s) dst (vs[i]?) := by
 simp only [xExt, xputD]
 cases hv : vs[i]? with
 | none => rfl
 | some v => simp
theorem w_extA (n i : Nat) (vs : List AV) : xExt T dst n i s (some (.ag true vs)) = xputC T s dst (vs[i]?) := by
 simp only [xExt, xputC]
theorem w_mk (k sz bytes : Nat) (z : DV) (kk : IntKind) (n : Int) : xMk T d L dst k sz bytes z s (some (.d (.int kk n))) = if d = false ∧ bfree s.B (L + k) ∧ 0 ≤ n ∧ n.toNat * bytes ≤ 140737488355328 ∧ n < 9223372036854775808 ∧ z.cells.length = sz ∧ z.cells.all DV.isCell then
    some (xput T ⟨s.r, s.B.set (L + k) (some (((List.replicate n.toNat z.cn).flatMap DV.cells).map .d))⟩ dst (.bsl [] (isAgg z) (L + k) sz n.toNat)) else none := _root_.id rfl
theorem w_row (xs : List DV) : xRow T dst s (some xs) = some (xput T s dst (.d (.sl U xs))) := _root_.id rfl
theorem w_iso (k : Nat) (vs : List AV) : xIso c T dst s (some (.fn k [])) (some vs) = xIso2 T dst s (datas vs) (c k (xpass [] 0 vs) []) := by
 simp only [xIso, xIso2]; cases datas vs <;> rfl
theorem w_iso2 (ds : List DV) (v : DV) (B : Boxs) : xIso2 T dst s (some ds) (some (.d v, B)) = some (xput T s dst (.d v)) := _root_.id rfl
theorem w_n (args : List VX) (k : Nat) (caps vs : List AV) : xN c lin T dst s args (some (.fn k caps)) (some vs) = xN2 T dst s (xpassed (lin k) 0 args) (linDistinct T (xpassed (lin k) 0 args)) (c k (xpass (lin k) 0 vs ++ caps) s.B) := _root_.id rfl
theorem w_n2 (xs : List VX) (r : List (Nat × AV)) (B0 : Boxs) (v : AV) (B : Boxs) : xN2 T dst ⟨r, B0⟩ xs true (some (v, B)) = some (xput T ⟨xdrops T r xs, B⟩ dst v) := _root_.id rfl
theorem w_putD (v : DV) : xputD T s dst (some v) = some (xput T s dst (.d v)) := _root_.id rfl
end
theorem e_nilCheck_ptr (r : List (Nat × AV)) (x : VX) : evP r (.nilCheck x) = eNil (x.get r) := _root_.id rfl
theorem e_bin (r : List (Nat × AV)) (op : BinOp) (x y : VX) : evP r (.bin op x y) = eBin op (x.get r) (y.get r) := _root_.id rfl
theorem e_eqAgg (r : List (Nat × AV)) (neg : Bool) (ks : List Nat) (x y : VX) : evP r (.eqAgg neg ks x y) = eEqAgg neg ks (x.get r) (y.get r) := _root_.id rfl
theorem e_eqB (r : List (Nat × AV)) (neg : Bool) (x y : VX) : evP r (.eqB neg x y) = eEqB neg (x.get r) (y.get r) := _root_.id rfl
theorem e_not (r : List (Nat × AV)) (x : VX) : evP r (.not x) = eNot (x.get r) := _root_.id rfl
theorem e_conv (r : List (Nat × AV)) (k : IntKind) (x : VX) : evP r (.conv (.kind k) x) = eConv k (x.get r) := _root_.id rfl
theorem e_rune (r : List (Nat × AV)) (x : VX) : evP r (.conv .rune x) = eRune (x.get r) := _root_.id rfl
theorem e_bytes (r : List (Nat × AV)) (x : VX) : evP r (.conv .bytes x) = eBytes (x.get r) := _root_.id rfl
theorem e_index (r : List (Nat × AV)) (x y : VX) : evP r (.index x y) = eIndex (x.get r) (y.get r) := _root_.id rfl
theorem e_indexAddr (r : List (Nat × AV)) (sz : Nat) (x y : VX) : evP r (.indexAddr sz none x y) = eAddr sz (x.get r) (y.get r) := _root_.id rfl
theorem e_indexArr (r : List (Nat × AV)) (sz m : Nat) (x y : VX) : evP r (.indexAddr sz (some m) x y) = eArr sz m (x.get r) (y.get r) := _root_.id rfl
theorem e_fieldAddr (r : List (Nat × AV)) (off : Nat) (x : VX) : evP r (.fieldAddr off x) = eField off (x.get r) := _root_.id rfl
theorem e_makeFunc (r : List (Nat × AV)) (f : Nat) (cs : List VX) : evP r (.makeFunc f cs) = (gets r cs).map fun vs => .fn f vs := _root_.id rfl
theorem e_len (r : List (Nat × AV)) (str : Bool) (x : VX) : evP r (.len str x) = eLen str (x.get r) := by
 cases str <;> simp only [evP, eLen] <;> (cases h : x.get r with
  | none => rfl
  | some v => cases v with
   | d w => cases w <;> rfl
   | _ => rfl)
theorem e_max (r : List (Nat × AV)) (x y : VX) : evP r (.max x y) = eMax (x.get r) (y.get r) := _root_.id rfl
theorem e_slice (r : List (Nat × AV)) (str : Bool) (sz : Nat) (x : VX) (lo hi : Option VX) : evP r (.slice str sz x lo hi) = eSlice str sz (x.get r) (getO r lo) (getO r hi) := by
 cases str <;> simp only [evP, eSlice] <;> (cases h : x.get r with
  | none => rfl
  | some v => cases v with
   | d w => cases w <;> cases getO r lo <;> cases getO r hi <;> rfl
   | _ => rfl)
theorem f_nil1 (i o : Nat) : eNil (some (.ptr i o)) = some (.ptr i o) := _root_.id rfl
theorem f_nil2 (cs : List DV) : eNil (some (.ep cs)) = some (.ep cs) := _root_.id rfl
theorem f_nil3 (f : Nat) (c : List AV) : eNil (some (.fn f c)) = some (.fn f c) := _root_.id rfl
theorem f_bin (op : BinOp) (a b : DV) : eBin op (some (.d a)) (some (.d b)) = dO (evBin op a b) := _root_.id rfl
theorem f_dO (a : DV) : dO (some a) = some (.d a) := _root_.id rfl
theorem f_eqAgg (neg : Bool) (ks : List Nat) (a b : List DV) : eEqAgg neg ks (some (.d (.agg a))) (some (.d (.agg b))) = (eqCells ks a b).map fun e => .d (.bool (if neg then !e else e)) := _root_.id rfl
theorem f_eqB (neg : Bool) (a b : Bool) : eEqB neg (some (.d (.bool a))) (some (.d (.bool b))) = some (.d (.bool (if neg then !(a == b) else (a == b)))) := _root_.id rfl
theorem f_not (b : Bool) : eNot (some (.d (.bool b))) = some (.d (.bool !b)) := _root_.id rfl
theorem f_conv (k k' : IntKind) (n : Int) : eConv k (some (.d (.int k' n))) = some (.d (.int k (k.wrap n))) := _root_.id rfl
theorem f_rune (k' : IntKind) (n : Int) : eRune (some (.d (.int k' n))) = some (.d (.str (Utf8.encode n))) := _root_.id rfl
theorem f_bytes (g : Tag) (xs : List DV) : eBytes (some (.d (.sl g xs))) = (bytesOf xs).map fun bs => .d (.str ⟨bs.toArray⟩) := _root_.id rfl
theorem f_index (s : ByteArray) (k : IntKind) (n : Int) : eIndex (some (.d (.str s))) (some (.d (.int k n))) = if 0 ≤ n then (byteAt s n.toNat).map fun b => .d (.int .u8 b) else none := _root_.id rfl
theorem f_addr (sz : Nat) (g : Tag) (xs : List DV) (k : IntKind) (n : Int) : eAddr sz (some (.d (.sl g xs))) (some (.d (.int k n))) = if 0 ≤ n then eElem sz (xs[n.toNat]?) else none := by
 simp only [eAddr, eElem]
theorem f_elem (sz : Nat) (e : DV) : eElem sz (some e) = if e.cells.length = sz ∧ sz ≠ 0 then some (.ep e.cells) else none := _root_.id rfl
theorem f_addrB (sz : Nat) (id : Id) (a : Bool) (b s' m : Nat) (k : IntKind) (n : Int) : eAddr sz (some (.bsl id a b s' m)) (some (.d (.int k n))) = if s' = sz ∧ 0 ≤ n ∧ n < m then some (.ptr b (n.toNat * sz)) else none := _root_.id rfl
theorem f_addrT (sz : Nat) (a : Bool) (b s' m : Nat) (k : IntKind) (n : Int) : eAddr sz (some (.tsl a b s' m)) (some (.d (.int k n))) = if s' = sz ∧ 0 ≤ n ∧ n < m then some (.ptr b (n.toNat * sz)) else none := _root_.id rfl
theorem f_arr (sz m b o : Nat) (k : IntKind) (n : Int) : eArr sz m (some (.ptr b o)) (some (.d (.int k n))) = if 0 ≤ n ∧ n < m then some (.ptr b (o + n.toNat * sz)) else none := _root_.id rfl
theorem f_arrE (sz m : Nat) (cs : List DV) (k : IntKind) (n : Int) : eArr sz m (some (.ep cs)) (some (.d (.int k n))) = if 0 ≤ n ∧ n < m ∧ n.toNat * sz ≤ cs.length then some (.ep (cs.drop (n.toNat * sz))) else none := _root_.id rfl
theorem f_field (off b o : Nat) : eField off (some (.ptr b o)) = some (.ptr b (o + off)) := _root_.id rfl
theorem f_fieldE (off : Nat) (cs : List DV) : eField off (some (.ep cs)) = if off ≤ cs.length then some (.ep (cs.drop off)) else none := _root_.id rfl
theorem f_len (s : ByteArray) : eLen true (some (.d (.str s))) = some (.d (.int .i64 s.size)) := _root_.id rfl
theorem f_lenS (g : Tag) (xs : List DV) : eLen false (some (.d (.sl g xs))) = some (.d (.int .i64 xs.length)) := _root_.id rfl
theorem f_lenT (a : Bool) (i s n : Nat) : eLen false (some (.tsl a i s n)) = some (.d (.int .i64 n)) := _root_.id rfl
theorem datas_tsl (a : Bool) (i s n : Nat) (r : List AV) : datas (.tsl a i s n :: r) = none := _root_.id rfl
theorem consD_none (v : DV) : consD v none = none := _root_.id rfl
theorem boxAg_none (cs : List AV) : boxAg cs none = if cs.all AV.plainT then some (.ag false cs) else none := _root_.id rfl
theorem plainT_int (k : IntKind) (n : Int) : (AV.d (.int k n)).plainT = true := _root_.id rfl
theorem plainT_bool (b : Bool) : (AV.d (.bool b)).plainT = true := _root_.id rfl
theorem plainT_str (b : ByteArray) : (AV.d (.str b)).plainT = true := _root_.id rfl
theorem plainT_nil (g : Tag) : (AV.d (.sl g [])).plainT = true := _root_.id rfl
theorem plainT_tsl (a : Bool) (i s n : Nat) : (AV.tsl a i s n).plainT = true := _root_.id rfl
theorem clrA_tsl (a : Bool) (i s n : Nat) : (AV.tsl a i s n).clr = .tsl a i s n := by simp only [AV.clr]
theorem clrA_ag (t : Bool) (cs : List AV) : (AV.ag t cs).clr = .ag t (AV.clrs cs) := by simp only [AV.clr]
theorem boxAg_some (cs : List AV) (ds : List DV) : boxAg cs (some ds) = some (.d (.agg ds)) := _root_.id rfl
theorem frzL_nil (f : AV → Option DV) : frzL f [] = some [] := _root_.id rfl
theorem frzL_cons (f : AV → Option DV) (v : AV) (r : List AV) : frzL f (v :: r) = frzO (f v) (frzL f r) := _root_.id rfl
theorem frzO_some (d : DV) (ds : List DV) : frzO (some d) (some ds) = some (d :: ds) := _root_.id rfl
theorem frz_d (B : Boxs) (v : DV) : AV.frz B (.d v) = some v := by
 unfold AV.frz; cases B.length <;> simp only [AV.frzC]
theorem f_lenB (id : Id) (a : Bool) (i s n : Nat) : eLen false (some (.bsl id a i s n)) = some (.d (.int .i64 n)) := _root_.id rfl
theorem f_max (k : IntKind) (a b : Int) : eMax (some (.d (.int k a))) (some (.d (.int k b))) = some (.d (.int k (if b > a then b else a))) := by simp [eMax]
theorem f_sliceS (sz : Nat) (s : ByteArray) (lo hi : Option AV) : eSlice true sz (some (.d (.str s))) (some lo) (some hi) = (sliceHi s.size hi).bind fun h => (sliceLo h lo).map fun l => .d (.str (s.extract l h)) := _root_.id rfl
theorem f_slice (sz : Nat) (g : Tag) (xs : List DV) (lo hi : Option AV) : eSlice false sz (some (.d (.sl g xs))) (some lo) (some hi) = if xs.all (fun e => e.cells.length = sz) then (sliceHi xs.length hi).bind fun h => (sliceLo h lo).map fun l => .d (.sl (if g = .nil then .nil else .sub) ((xs.take h).drop l)) else none := _root_.id rfl
theorem getO_none (r : List (Nat × AV)) : getO r none = some none := _root_.id rfl
theorem getO_some (r : List (Nat × AV)) (x : VX) : getO r (some x) = (x.get r).map some := _root_.id rfl
theorem hi_none (n : Nat) : sliceHi n none = some n := _root_.id rfl
theorem lo_none (n : Nat) : sliceLo n none = some 0 := _root_.id rfl
theorem hi_int (n : Nat) (k : IntKind) (h : Int) : sliceHi n (some (.d (.int k h))) = if 0 ≤ h ∧ h.toNat ≤ n then some h.toNat else none := _root_.id rfl
theorem lo_int (n : Nat) (k : IntKind) (h : Int) : sliceLo n (some (.d (.int k h))) = if 0 ≤ h ∧ h.toNat ≤ n then some h.toNat else none := _root_.id rfl
theorem gets_nil (r : List (Nat × AV)) : gets r [] = some [] := _root_.id rfl
theorem gets_cons (r : List (Nat × AV)) (x : VX) (xs : List VX) : gets r (x :: xs) = consO (x.get r) (gets r xs) := by simp only [gets, consO]; cases x.get r <;> cases gets r xs <;> rfl
theorem consO_some (v : AV) (vs : List AV) : consO (some v) (some vs) = some (v :: vs) := _root_.id rfl
theorem xget_t (r : List (Nat × AV)) (n : Nat) : xget r (.t n) = lk r n := _root_.id rfl
theorem xget_c (r : List (Nat × AV)) (v : DV) : xget r (.c (.d v)) = some (.d v.cn) := _root_.id rfl
theorem xget_fn (r : List (Nat × AV)) (f : Nat) : xget r (.c (.fn f [])) = some (.fn f []) := by simp [xget, AV.clr, AV.clrs]
theorem xget_nilp (r : List (Nat × AV)) : xget r (.c .nilp) = some .nilp := by simp [xget, AV.clr]
theorem xdrops_nil (T : List Nat) (r : List (Nat × AV)) : xdrops T r [] = r := _root_.id rfl
theorem xdrops_cons (T : List Nat) (r : List (Nat × AV)) (x : VX) (xs : List VX) : xdrops T r (x :: xs) = xdrops T (xdrop T r x) xs := _root_.id rfl
theorem xdrop_c (T : List Nat) (r : List (Nat × AV)) (v : AV) : xdrop T r (.c v) = r := _root_.id rfl
theorem xdrop_not (T : List Nat) (r : List (Nat × AV)) (n : Nat) (h : T.contains n = false) : xdrop T r (.t n) = r := by simp only [xdrop, h]; simp
theorem xdrop_lin (T : List Nat) (r : List (Nat × AV)) (n : Nat) (h : T.contains n = true) (v : AV) (hv : lk r n = some v) : xdrop T r (.t n) = (n, v.clr) :: r := by simp only [xdrop, h, hv]; simp
theorem isLin_none (T : List Nat) : isLin T none = false := _root_.id rfl
theorem isLin_some (T : List Nat) (d : Nat) : isLin T (some d) = T.contains d := _root_.id rfl
theorem cn_int (k : IntKind) (n : Int) : (DV.int k n).cn = .int k n := by simp [DV.cn, DV.cn1, DV.clr]
theorem cn_bool (b : Bool) : (DV.bool b).cn = .bool b := by simp [DV.cn, DV.cn1, DV.clr]
theorem cn_str (s : ByteArray) : (DV.str s).cn = .str s := by simp [DV.cn, DV.cn1, DV.clr]
theorem cn_nil : (DV.sl .nil []).cn = .sl U [] := by simp [DV.cn, DV.cn1]
theorem cn_agg (cs : List DV) : (DV.agg cs).cn = .agg (cs.map DV.cn1) := _root_.id rfl
theorem cn1_int (k : IntKind) (n : Int) : (DV.int k n).cn1 = .int k n := by simp [DV.cn1, DV.clr]
theorem cn1_bool (b : Bool) : (DV.bool b).cn1 = .bool b := by simp [DV.cn1, DV.clr]
theorem cn1_str (s : ByteArray) : (DV.str s).cn1 = .str s := by simp [DV.cn1, DV.clr]
theorem cn1_nil : (DV.sl .nil []).cn1 = .sl U [] := by simp [DV.cn1]
theorem clr_int (k : IntKind) (n : Int) : (DV.int k n).clr = .int k n := by simp [DV.clr]
theorem clr_bool (b : Bool) : (DV.bool b).clr = .bool b := by simp [DV.clr]
theorem clr_str (s : ByteArray) : (DV.str s).clr = .str s := by simp [DV.clr]
theorem clr_sl (g : Tag) (xs : List DV) : (DV.sl g xs).clr = .sl .sub (xs.map DV.clr) := by simp [DV.clr, DV.clrs_map]
theorem clr_agg (xs : List DV) : (DV.agg xs).clr = .agg (xs.map DV.clr) := by simp [DV.clr, DV.clrs_map]
theorem clr_tup (xs : List DV) : (DV.tup xs).clr = .tup (xs.map DV.clr) := by simp [DV.clr, DV.clrs_map]
theorem clrA_d (v : DV) : (AV.d v).clr = .d v.clr := by simp [AV.clr]
theorem clrA_ptr (i o : Nat) : (AV.ptr i o).clr = .ptr i o := by simp [AV.clr]
theorem clrA_ep (cs : List DV) : (AV.ep cs).clr = .ep (cs.map DV.clr) := by simp [AV.clr, DV.clrs_map]
theorem clrA_fn (f : Nat) (cs : List AV) : (AV.fn f cs).clr = .fn f (cs.map AV.clr) := by simp [AV.clr, AV.clrs_map]
theorem clrA_nilp : AV.nilp.clr = .nilp := by simp [AV.clr]
theorem clrA_bsl (id : Id) (a : Bool) (i sz n : Nat) : (AV.bsl id a i sz n).clr = .bsl id a i sz n := by simp [AV.clr]
theorem clrA_und : AV.und.clr = .und := by simp [AV.clr]
theorem xpass_nil (LP : List Nat) (j : Nat) : xpass LP j [] = [] := _root_.id rfl
theorem xpass_cons (LP : List Nat) (j : Nat) (v : AV) (r : List AV) : xpass LP j (v :: r) = (if LP.contains j then v else v.clr) :: xpass LP (j + 1) r := _root_.id rfl
theorem xpassed_nil (LP : List Nat) (j : Nat) : xpassed LP j [] = [] := _root_.id rfl
theorem xpassed_none (j : Nat) : ∀ xs : List VX, xpassed [] j xs = []
 | [] => rfl
 | x :: xs => by simp [xpassed, xpassed_none (j + 1) xs]
theorem xpassed_cons (LP : List Nat) (j : Nat) (v : VX) (r : List VX) : xpassed LP j (v :: r) = if LP.contains j then v :: xpassed LP (j + 1) r else xpassed LP (j + 1) r := _root_.id rfl
theorem xgets_nil (r : List (Nat × AV)) : xgets r [] = some [] := _root_.id rfl
theorem xgets_cons (r : List (Nat × AV)) (x : VX) (xs : List VX) : xgets r (x :: xs) = consO (xget r x) (xgets r xs) := by simp only [xgets, consO]; cases xget r x <;> cases xgets r xs <;> rfl
theorem datas_nil : datas [] = some [] := _root_.id rfl
theorem datas_cons (v : DV) (r : List AV) : datas (.d v :: r) = consD v (datas r) := _root_.id rfl
theorem consD_some (v : DV) (r : List DV) : consD v (some r) = some (v :: r) := _root_.id rfl
theorem lin_nil (T : List Nat) : linDistinct T [] = true := _root_.id rfl
theorem buildCells_nil (g : VX → Option AV) (cs : List DV) : buildCells g cs [] = some cs := _root_.id rfl
theorem buildCells_cons (g : VX → Option AV) (cs : List DV) (off size : Nat) (x : VX) (r : List (Nat × Nat × VX)) : buildCells g cs ((off, size, x) :: r) = eCells g cs off size r (g x) := by
 simp only [buildCells, eCells] <;> rfl
theorem f_cells (g : VX → Option AV) (cs : List DV) (off size : Nat) (r : List (Nat × Nat × VX)) (v : DV) : eCells g cs off size r (some (.d v)) = if v.cells.length = size ∧ off + size ≤ cs.length ∧ v.cells.all DV.isCell then buildCells g (splice cs off v.cells) r else none := _root_.id rfl
theorem buildRow_nil (g : VX → Option AV) (sz : Nat) (cs : List DV) : buildRow g sz cs [] = some cs := _root_.id rfl
theorem buildRow_cons (g : VX → Option AV) (sz : Nat) (cs : List DV) (i : Nat) (x : VX) (r : List (Nat × VX)) : buildRow g sz cs ((i, x) :: r) = eRow g sz cs i r (g x) := by
 simp only [buildRow, eRow] <;> rfl
theorem f_row (g : VX → Option AV) (sz : Nat) (cs : List DV) (i : Nat) (r : List (Nat × VX)) (v : DV) : eRow g sz cs i r (some (.d v)) = if v.cells.length = sz ∧ i < cs.length ∧ v.cells.all DV.isCell then buildRow g sz (cs.set i v) r else none := _root_.id rfl
def xFr (t : Nat) (live : List Nat) (s : XS) (v : Option AV) : Option XS :=
 match v with
 | some (.d (.sl (.own [] 0) (x :: xs))) =>
  if live.contains t = false ∧ xrestRegs ((x :: xs).flatMap DV.cells) (keep s.r live) = true ∧ xrestBoxs ((x :: xs).flatMap DV.cells) s.B = true ∧ DV.xrests ((x :: xs).flatMap DV.cells) ((x :: xs).flatMap DV.cells) = true then
   some ⟨(t, .tsl (isAgD x) s.B.length x.cells.length (xs.length + 1)) :: keep s.r live, s.B ++ [some (((x :: xs).flatMap DV.cells).map .d)]⟩
  else none
 | _ => none
theorem g_focR (t : Nat) (live : List Nat) (s : XS) : xGho (.focR t live) s = xFr t live s (lk s.r t) := _root_.id rfl
theorem g_focR1 (t : Nat) (live : List Nat) (r : List (Nat × AV)) (B : Boxs) (x : DV) (xs : List DV) : xFr t live ⟨r, B⟩ (some (.d (.sl U (x :: xs)))) =
  if live.contains t = false ∧ xrestRegs ((x :: xs).flatMap DV.cells) (keep r live) = true ∧ xrestBoxs ((x :: xs).flatMap DV.cells) B = true ∧ DV.xrests ((x :: xs).flatMap DV.cells) ((x :: xs).flatMap DV.cells) = true then
   some ⟨(t, .tsl (isAgD x) B.length x.cells.length (xs.length + 1)) :: keep r live, B ++ [some (((x :: xs).flatMap DV.cells).map .d)]⟩
  else none := _root_.id rfl
def xFc (off : Nat) (live : List Nat) (s : XS) (j o : Nat) (cs : List AV) (v : Option AV) : Option XS :=
 match v with
 | some (.d (.sl (.own [] 0) (x :: xs))) =>
  if bfree s.B j = true ∧ xrestRegs ((x :: xs).flatMap DV.cells) (keep s.r live) = true ∧
    xrestBoxs ((x :: xs).flatMap DV.cells) (s.B.set (j + 1) (some (cs.set (o + off) (.tsl (isAgD x) j x.cells.length (xs.length + 1))))) = true ∧ DV.xrests ((x :: xs).flatMap DV.cells) ((x :: xs).flatMap DV.cells) = true then
   some ⟨keep s.r live, (s.B.set (j + 1) (some (cs.set (o + off) (.tsl (isAgD x) j x.cells.length (xs.length + 1))))).set j (some (((x :: xs).flatMap DV.cells).map .d))⟩
  else none
 | _ => none
def xFcP (off : Nat) (live : List Nat) (s : XS) (v : Option AV) : Option XS :=
 match v with
 | some (.ptr (j + 1) o) => (bget s.B (j + 1)).bind fun cs => xFc off live s j o cs (cs[o + off]?)
 | _ => none
theorem g_focC (t off : Nat) (live : List Nat) (s : XS) : xGho (.focC t off live) s = xFcP off live s (lk s.r t) := _root_.id rfl
theorem g_focC1 (off : Nat) (live : List Nat) (s : XS) (j o : Nat) : xFcP off live s (some (.ptr (j + 1) o)) = (bget s.B (j + 1)).bind fun cs => xFc off live s j o cs (cs[o + off]?) := _root_.id rfl
theorem g_focC2 (off : Nat) (live : List Nat) (r : List (Nat × AV)) (B : Boxs) (j o : Nat) (cs : List AV) (x : DV) (xs : List DV) : xFc off live ⟨r, B⟩ j o cs (some (.d (.sl U (x :: xs)))) =
  if bfree B j = true ∧ xrestRegs ((x :: xs).flatMap DV.cells) (keep r live) = true ∧
    xrestBoxs ((x :: xs).flatMap DV.cells) (B.set (j + 1) (some (cs.set (o + off) (.tsl (isAgD x) j x.cells.length (xs.length + 1))))) = true ∧ DV.xrests ((x :: xs).flatMap DV.cells) ((x :: xs).flatMap DV.cells) = true then
   some ⟨keep r live, (B.set (j + 1) (some (cs.set (o + off) (.tsl (isAgD x) j x.cells.length (xs.length + 1))))).set j (some (((x :: xs).flatMap DV.cells).map .d))⟩
  else none := _root_.id rfl
def xFz (t L : Nat) (live : List Nat) (s : XS) (v : Option AV) : Option XS :=
 match v with
 | some v => if live.contains t = false ∧ safeRegs L (keep s.r live) = true ∧ L ≤ s.B.length then (v.frz (maskB L s.B)).map fun d => ⟨(t, .d d.clr) :: keep s.r live, s.B.take L⟩ else none
 | none => none
theorem g_frzR (t L : Nat) (live : List Nat) (s : XS) : xGho (.frzR t L live) s = xFz t L live s (lk s.r t) := _root_.id rfl
theorem g_frzR1 (t L : Nat) (live : List Nat) (r : List (Nat × AV)) (B : Boxs) (v : AV) : xFz t L live ⟨r, B⟩ (some v) = if live.contains t = false ∧ safeRegs L (keep r live) = true ∧ L ≤ B.length then (v.frz (maskB L B)).map fun d => ⟨(t, .d d.clr) :: keep r live, B.take L⟩ else none := _root_.id rfl
def xFb (t L : Nat) (live : List Nat) (s : XS) (v : Option AV) : Option XS :=
 match v with
 | some (.ptr i 0) =>
  if L ≤ i ∧ live.contains t = false ∧ safeRegs L (keep s.r live) = true ∧ L ≤ s.B.length then
   (bget s.B i).bind fun cs => (frzL (AV.frzC (maskB L s.B) s.B.length) cs).bind fun ds =>
    if ds.all DV.isCell then some ⟨(t, .ptr L 0) :: keep s.r live, s.B.take L ++ [some (ds.map fun d => .d d.clr)]⟩ else none
  else none
 | _ => none
theorem g_frzB (t L : Nat) (live : List Nat) (s : XS) : xGho (.frzB t L live) s = xFb t L live s (lk s.r t) := _root_.id rfl
theorem g_frzB1 (t L : Nat) (live : List Nat) (r : List (Nat × AV)) (B : Boxs) (i : Nat) : xFb t L live ⟨r, B⟩ (some (.ptr i 0)) =
  if L ≤ i ∧ live.contains t = false ∧ safeRegs L (keep r live) = true ∧ L ≤ B.length then
   (bget B i).bind fun cs => (frzL (AV.frzC (maskB L B) B.length) cs).bind fun ds =>
    if ds.all DV.isCell then some ⟨(t, .ptr L 0) :: keep r live, B.take L ++ [some (ds.map fun d => .d d.clr)]⟩ else none
  else none := _root_.id rfl
theorem xrestRegs_nil (rs : List DV) : xrestRegs rs [] = true := _root_.id rfl
theorem xrestRegs_cons (rs : List DV) (t : Nat) (v : AV) (r : List (Nat × AV)) : xrestRegs rs ((t, v) :: r) = (v.xrest rs && xrestRegs rs r) := _root_.id rfl
theorem xrestBoxs_nil (rs : List DV) : xrestBoxs rs [] = true := _root_.id rfl
theorem xrestBoxs_none (rs : List DV) (B : Boxs) : xrestBoxs rs (none :: B) = xrestBoxs rs B := by simp only [xrestBoxs, List.all_cons, Bool.true_and]
def cellsRest (rs : List DV) (cs : List AV) : Bool := cs.all (AV.xrest rs)
theorem cellsRest_nil (rs : List DV) : cellsRest rs [] = true := _root_.id rfl
theorem cellsRest_cons (rs : List DV) (v : AV) (cs : List AV) : cellsRest rs (v :: cs) = (v.xrest rs && cellsRest rs cs) := _root_.id rfl
theorem xrestBoxs_some (rs : List DV) (cs : List AV) (B : Boxs) : xrestBoxs rs (some cs :: B) = (cellsRest rs cs && xrestBoxs rs B) := _root_.id rfl
theorem axrest_d (rs : List DV) (v : DV) : AV.xrest rs (.d v) = v.xrest rs := _root_.id rfl
theorem axrest_ptr (rs : List DV) (i o : Nat) : AV.xrest rs (.ptr i o) = true := _root_.id rfl
theorem axrest_tsl (rs : List DV) (a : Bool) (i sz n : Nat) : AV.xrest rs (.tsl a i sz n) = true := _root_.id rfl
theorem axrest_und (rs : List DV) : AV.xrest rs .und = true := _root_.id rfl
theorem xrest_int (rs : List DV) (k : IntKind) (n : Int) : DV.xrest rs (.int k n) = true := by simp only [DV.xrest]
theorem xrest_bool (rs : List DV) (b : Bool) : DV.xrest rs (.bool b) = true := by simp only [DV.xrest]
theorem xrest_str (rs : List DV) (s : ByteArray) : DV.xrest rs (.str s) = true := by simp only [DV.xrest]
theorem xrest_agg (rs cs : List DV) : DV.xrest rs (.agg cs) = DV.xrests rs cs := by simp only [DV.xrest]
theorem xrest_U (rs xs : List DV) : DV.xrest rs (.sl U xs) = DV.xrests rs xs := by simp only [DV.xrest, decide_true, Bool.or_true, Bool.true_and]
theorem xrest_nil (rs : List DV) (g : Tag) : DV.xrest rs (.sl g []) = true := by simp [DV.xrest, DV.xrests]
theorem xrests_nil (rs : List DV) : DV.xrests rs [] = true := by simp only [DV.xrests]
theorem xrests_cons (rs : List DV) (v : DV) (r : List DV) : DV.xrests rs (v :: r) = (v.xrest rs && DV.xrests rs r) := by simp only [DV.xrests]
attribute [simp] cellsRest_nil cellsRest_cons g_focR g_focR1 g_focC g_focC1 g_focC2 g_frzR g_frzR1 g_frzB g_frzB1 xrestRegs_nil xrestRegs_cons xrestBoxs_nil xrestBoxs_none xrestBoxs_some axrest_d axrest_ptr axrest_tsl axrest_und xrest_int xrest_bool xrest_str xrest_agg xrest_U xrest_nil xrests_nil xrests_cons
theorem clrBs_nil : clrBs [] = [] := _root_.id rfl
theorem clrBs_some (cs : List AV) (B : Boxs) : clrBs (some cs :: B) = some (AV.clrs cs) :: clrBs B := _root_.id rfl
theorem clrBs_none (B : Boxs) : clrBs (none :: B) = none :: clrBs B := _root_.id rfl
theorem clrsA_nil : AV.clrs [] = [] := by simp only [AV.clrs]
theorem clrsA_cons (v : AV) (r : List AV) : AV.clrs (v :: r) = v.clr :: AV.clrs r := by simp only [AV.clrs]
attribute [simp] z_tl z_append1 w_ap1 z_callS z_loadS w_CS w_CS2 w_loadS z_ghost clrBs_nil clrBs_some clrBs_none clrsA_nil clrsA_cons
def xFB (c : XCaller) (lin : Nat → List Nat) (T : List Nat) (d : Bool) (L : Nat) (fs : List FOper) (o : Option XS) : Option XS := o.bind (xFs c lin T d L fs)
def xFA (c : XCaller) (lin : Nat → List Nat) (T : List Nat) (d : Bool) (L : Nat) (f : FOper) (fs : List FOper) (o : Option XS) : Option XS := o.bind fun s => xFB c lin T d L fs (xFup T f s)
def xUpS (T : List Nat) (a d3 sz : Nat) (ok : Bool) (s : XS) (v : Option AV) (lo hi : Option (Option AV)) : Option XS :=
 match v, lo, hi with
 | some (.d (.sl g xs)), some lo, some hi =>
  if ok = true ∧ xs.all (fun e => e.cells.length = sz) then
   (sliceHi xs.length hi).bind fun h => (sliceLo h lo).map fun l => xput T ⟨(a, .d (.sl g (rowRest xs l h))) :: s.r, s.B⟩ (some d3) (.d (.sl .sub ((xs.take h).drop l)))
  else none
 | _, _, _ => none
def xUpE3 (T : List Nat) (d4 sz : Nat) (s : XS) (b off : Nat) (cs : List AV) (g : Tag) (xs : List DV) (k : Nat) (e : Option DV) : Option XS :=
 match e with
 | some (.agg es) => if es.length = sz then some (xput T ⟨s.r, s.B.set b (some (cs.set off (.d (.sl g (xs.set k (DV.agg es).clr)))))⟩ (some d4) (.d (.agg es))) else none
 | _ => none
def xUpE2 (T : List Nat) (d4 sz : Nat) (s : XS) (b off : Nat) (cs : List AV) (k : Nat) (v : Option AV) : Option XS :=
 match v with
 | some (.d (.sl g xs)) => xUpE3 T d4 sz s b off cs g xs k (xs[k]?)
 | _ => none
def xUpE (T : List Nat) (d4 sz : Nat) (ok : Bool) (s : XS) (v w : Option AV) : Option XS :=
 match v, w with
 | some (.ptr b off), some (.d (.int _ k)) => if ok = true ∧ 0 ≤ k ∧ sz ≠ 0 then (bget s.B b).bind fun cs => xUpE2 T d4 sz s b off cs k.toNat (cs[off]?) else none
 | _, _ => none
theorem z_fs (c : XCaller) (lin : Nat → List Nat) (T : List Nat) (d : Bool) (L : Nat) (f : FOper) (fs : List FOper) (s : XS) : xFs c lin T d L (f :: fs) s = xFA c lin T d L f fs (xOps c lin T d L f.pre s) := _root_.id rfl
theorem z_fnil (c : XCaller) (lin : Nat → List Nat) (T : List Nat) (d : Bool) (L : Nat) (s : XS) : xFs c lin T d L [] s = some s := _root_.id rfl
theorem z_fa (c : XCaller) (lin : Nat → List Nat) (T : List Nat) (d : Bool) (L : Nat) (f : FOper) (fs : List FOper) (s : XS) : xFA c lin T d L f fs (some s) = xFB c lin T d L fs (xFup T f s) := _root_.id rfl
theorem z_fb (c : XCaller) (lin : Nat → List Nat) (T : List Nat) (d : Bool) (L : Nat) (fs : List FOper) (s : XS) : xFB c lin T d L fs (some s) = xFs c lin T d L fs s := _root_.id rfl
theorem z_upO (T : List Nat) (o : VOper) (s : XS) : xFup T (.one o) s = some s := _root_.id rfl
theorem z_upS (T : List Nat) (d1 a d2 : Nat) (b : VX) (d3 sz : Nat) (lo hi : Option VX) (f1 f2 f3 : List Nat) (s : XS) : xFup T (.sl d1 a d2 b d3 sz lo hi f1 f2 f3) s = xUpS T a d3 sz (decide (T.contains a = true ∧ T.contains d3 = true ∧ d1 ≠ a ∧ d2 ≠ a ∧ d1 ≠ d2)) s (lk s.r a) (getO s.r lo) (getO s.r hi) := by
 simp only [xFup, xUpS, decide_eq_true_eq]
 rfl
theorem w_upS (T : List Nat) (a d3 sz : Nat) (ok : Bool) (s : XS) (g : Tag) (xs : List DV) (lo hi : Option AV) : xUpS T a d3 sz ok s (some (.d (.sl g xs))) (some lo) (some hi) = if ok = true ∧ xs.all (fun e => e.cells.length = sz) then
   (sliceHi xs.length hi).bind fun h => (sliceLo h lo).map fun l => xput T ⟨(a, .d (.sl g (rowRest xs l h))) :: s.r, s.B⟩ (some d3) (.d (.sl .sub ((xs.take h).drop l)))
  else none := _root_.id rfl
theorem z_upE (T : List Nat) (d1 q d2 : Nat) (b : VX) (d3 sz d4 : Nat) (f1 f2 f3 f4 : List Nat) (s : XS) : xFup T (.el d1 q d2 b d3 sz d4 f1 f2 f3 f4) s = xUpE T d4 sz (decide (T.contains d4 = true ∧ d1 ≠ q ∧ d2 ≠ q ∧ d3 ≠ q ∧ d1 ≠ d2 ∧ d3 ≠ d2)) s (lk s.r q) (lk s.r d2) := by
 simp only [xFup, xUpE, xUpE2, xUpE3, decide_eq_true_eq]
 rfl
theorem w_upE (T : List Nat) (d4 sz : Nat) (ok : Bool) (s : XS) (b off : Nat) (kd : IntKind) (k : Int) : xUpE T d4 sz ok s (some (.ptr b off)) (some (.d (.int kd k))) = if ok = true ∧ 0 ≤ k ∧ sz ≠ 0 then (bget s.B b).bind fun cs => xUpE2 T d4 sz s b off cs k.toNat (cs[off]?) else none := _root_.id rfl
theorem w_upE2 (T : List Nat) (d4 sz : Nat) (s : XS) (b off : Nat) (cs : List AV) (k : Nat) (g : Tag) (xs : List DV) : xUpE2 T d4 sz s b off cs k (some (.d (.sl g xs))) = xUpE3 T d4 sz s b off cs g xs k (xs[k]?) := _root_.id rfl
theorem w_upE3 (T : List Nat) (d4 sz : Nat) (s : XS) (b off : Nat) (cs : List AV) (g : Tag) (xs : List DV) (k : Nat) (es : List DV) : xUpE3 T d4 sz s b off cs g xs k (some (.agg es)) = if es.length = sz then some (xput T ⟨s.r, s.B.set b (some (cs.set off (.d (.sl g (xs.set k (DV.agg es).clr)))))⟩ (some d4) (.d (.agg es))) else none := _root_.id rfl
theorem z_regionF (X : XEnv) (T : List Nat) (na : Nat) (live : List Nat) (fs : List FOper) (r : List (Nat × AV)) (B : Boxs) :
  codeX X T (.regionF false na live fs) ⟨r, B⟩ = xEnd live (xFs (callX X) X.lin T false B.length fs ⟨r, B ++ List.replicate na none⟩) := by
 rw [codeX_regionF]; simp [xRegionF, xEnd, Function.comp_def]
theorem z_drawF (X : XEnv) (T : List Nat) (na : Nat) (live : List Nat) (fs : List FOper) (h : drawOK (flatF fs) = true) (r : List (Nat × AV)) (B : Boxs) :
  codeX X T (.regionF true na live fs) ⟨r, B⟩ = xEnd live (xFs (callX X) X.lin T true B.length fs ⟨r, B ++ List.replicate na none⟩) := by
 rw [codeX_regionF]; simp [xRegionF, xEnd, Function.comp_def, h]
attribute [simp] z_fs z_fnil z_fa z_fb z_upO z_upS w_upS z_upE w_upE w_upE2 w_upE3 z_regionF FOper.pre
attribute [simp] codeX_seq codeX_ret codeX_exit codeX_skip codeX_loop z_ops z_nil z_true z_false z_next z_region z_end z_block z_unblock z_cond z_ctrue z_cfalse xThen_normal xThen_ret xThen_exit z_move z_build z_nilCheck z_bin z_eqAgg z_eqB z_not z_conv z_index z_indexAddr z_indexAddrA z_indexAddrC w_tk w_tk2 z_fieldAddr z_slice z_makeFunc z_len z_max z_putC z_put z_xput z_xput_none z_give z_alloc z_append z_box z_load z_storeN z_store z_extract z_pick z_makeSlice z_buildSlice z_iso z_ncall z_callT z_allocE boxAg_some datas_tsl consD_none boxAg_none plainT_int plainT_bool plainT_str plainT_nil plainT_tsl clrA_tsl clrA_ag w_pick w_app w_box w_load_ep w_load w_store w_storeN farAll_nil farAll_cons farV_ptr xcell2 w_setB w_ext w_mk w_row w_iso w_iso2 w_n w_n2 w_putD w_T w_TD w_T1 w_T2 w_aftF w_aftT w_extA frzL_nil frzL_cons frzO_some frz_d f_addrT f_lenT e_nilCheck_ptr e_bin e_eqAgg e_eqB e_not e_conv e_rune e_bytes e_index e_indexAddr e_indexArr e_fieldAddr e_makeFunc e_len e_max e_slice f_nil1 f_nil2 f_nil3 f_bin f_dO f_eqAgg f_eqB f_not f_conv f_rune f_bytes f_index f_addr f_elem f_addrB f_arr f_arrE f_field f_fieldE f_len f_lenS f_lenB f_max f_sliceS f_slice getO_none getO_some hi_none lo_none hi_int lo_int gets_nil gets_cons consO_some xget_t xget_c xget_fn xget_nilp xdrops_nil xdrops_cons xdrop_c xdrop_not xdrop_lin isLin_none isLin_some cn_int cn_bool cn_str cn_nil cn_agg cn1_int cn1_bool cn1_str cn1_nil clr_int clr_bool clr_str clr_sl clr_agg clr_tup clrA_d clrA_ptr clrA_ep clrA_fn clrA_nilp clrA_bsl clrA_und xpass_nil xpass_cons xpassed_nil xpassed_none xpassed_cons xgets_nil xgets_cons datas_nil datas_cons consD_some lin_nil buildCells_nil buildCells_cons f_cells buildRow_nil buildRow_cons f_row xfinish xfinishMany xcellRes xressOf xresOf xstoreBox bfree bget badStore clrCells loadBox
end Go.Proofs.Ytfiakfiocdfpbaa.VS

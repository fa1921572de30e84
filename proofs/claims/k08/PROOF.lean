import PyProof.Rows.All
import Wide.All
import OpenK.AllK
import Wide.FinOn
import HandS.ForMost
import HandS.Flow
import HandS.Style
import HandS.Star
import HandS.Zip
import HandS.NoneIn
import HandS.EndBits
import HandS.Wide
import HandS.IsInst
import HandS.Codes
import HandS.Replace
import HandS.Conv
import PyProof.ListStr
import PyProof.ZipIter
import PySem.Challenge.RW_wornyettold_k08_whole_torn_and_fallen_ne
set_option Elab.async false
set_option linter.all false
set_option maxRecDepth 100000
set_option maxHeartbeats 2000000
/-! A layer over HandS: values as plain data (PyData), objects that nobody changes apart from those that one owns. -/
namespace W9
open PySem PySem.Spec PyProof.Rows L2

/-! ### what a slot holds -/
inductive SD where
  | raw (v : V)
  | py (d : PyData)
abbrev DE := List (Option SD)
/-- what is owned: an object as it stands; a list of data -/
inductive OV where
  | ho (o : HO)
  | dl (l : List PyData)
abbrev MS := List (Addr × OV)
def ad (m : MS) : List Addr := m.map (·.1)

def Ex (H H' : Hp) : Prop := ∀ a o, H a = some o → H' a = some o
theorem Ex.refl (H : Hp) : Ex H H := fun _ _ h => h
theorem Ex.trans {H H1 H2 : Hp} (a : Ex H H1) (b : Ex H1 H2) : Ex H H2 := fun x o h => b x o (a x o h)
theorem Ex.back {H H' : Hp} (e : Ex H H') {a : Addr} (h : H' a = none) : H a = none := by
  cases q : H a with
  | none => rfl
  | some o => rw [e a o q] at h; cases h
theorem Ex.new {H : Hp} {p : Addr} {o : HO} (h : H p = none) : Ex H (upd H p o) := fun a u e => by
  rw [upd_ne (ne_of_none e h)]
  exact e
theorem Ex.both {H H' : Hp} {p : Addr} {o : HO} (e : Ex H H') : Ex (L2.upd H p o) (L2.upd H' p o) := fun a u h => by
  by_cases q : a = p
  · subst q; rw [upd_same] at h ⊢; exact h
  · rw [upd_ne q] at h ⊢; exact e a u h
theorem ex_rd {H H' : Hp} {a : Addr} {u : HO} (e : Ex H H') (h : Rd H a u) : Rd H' a u := by
  rcases h with h | ⟨o, h⟩
  · exact Or.inl (e a _ h)
  · exact Or.inr ⟨o, e a _ h⟩
section
variable {K : PySem.W.Frag} {G G' H H' : Hp}
theorem ex_l {a : Addr} {xs : List V} (e : Ex H H') (h : SqL K H a xs) : SqL K H' a xs := by
  rcases h with h | h
  · exact Or.inl (ex_rd e h)
  · exact Or.inr h
theorem ex_t {a : Addr} {xs : List V} (e : Ex H H') (h : SqT K H a xs) : SqT K H' a xs := by
  rcases h with h | h
  · exact Or.inl (ex_rd e h)
  · exact Or.inr h
mutual
theorem dp_mono (e : Ex G G') : ∀ {v : V} {d : PyData}, Dp K G v d → Dp K G' v d
  | _, _, .non => .non
  | _, _, .bl b => .bl b
  | _, _, .int i => .int i
  | _, _, .str x => .str x
  | _, _, .lst h a => .lst (ex_l e h) (dpa_mono e a)
  | _, _, .tup h a => .tup (ex_t e h) (dpa_mono e a)
theorem dpa_mono (e : Ex G G') : ∀ {vs : List V} {ds : List PyData}, DpAll K G vs ds → DpAll K G' vs ds
  | _, _, .nil => .nil
  | _, _, .cons h a => .cons (dp_mono e h) (dpa_mono e a)
end
inductive DS (K : PySem.W.Frag) (G : Hp) : V → SD → Prop
  | raw (v : V) : DS K G v (.raw v)
  | py {v : V} {d : PyData} : Dp K G v d → DS K G v (.py d)
theorem ds_mono (e : Ex G G') : ∀ {v : V} {d : SD}, DS K G v d → DS K G' v d
  | _, _, .raw v => .raw v
  | _, _, .py h => .py (dp_mono e h)
inductive DSs (K : PySem.W.Frag) (G : Hp) : List V → List SD → Prop
  | nil : DSs K G [] []
  | cons {v : V} {vs : List V} {d : SD} {ds : List SD} : DS K G v d → DSs K G vs ds → DSs K G (v :: vs) (d :: ds)
theorem dss_mono (e : Ex G G') : ∀ {vs : List V} {ds : List SD}, DSs K G vs ds → DSs K G' vs ds
  | _, _, .nil => .nil
  | _, _, .cons h a => .cons (ds_mono e h) (dss_mono e a)
theorem DSs.length : ∀ {vs : List V} {ds : List SD}, DSs K G vs ds → vs.length = ds.length
  | _, _, .nil => rfl
  | _, _, .cons _ a => by rw [List.length_cons, List.length_cons, a.length]
theorem dpa_length : ∀ {vs : List V} {ds : List PyData}, DpAll K G vs ds → vs.length = ds.length
  | _, _, .nil => rfl
  | _, _, .cons _ a => by rw [List.length_cons, List.length_cons, dpa_length a]
theorem dpa_get : ∀ {vs : List V} {ds : List PyData} {i : Nat} {d : PyData}, DpAll K G vs ds → ds[i]? = some d → ∃ v, vs[i]? = some v ∧ Dp K G v d
  | _, _, _, _, .nil, e => by simp at e
  | _, _, 0, _, .cons h _, e => by simp at e; subst e; exact ⟨_, rfl, h⟩
  | _, _, i + 1, _, .cons _ a, e => by
    obtain ⟨v, h1, h2⟩ := dpa_get (i := i) a (by simpa using e)
    exact ⟨v, by simpa using h1, h2⟩
theorem dpa_get' : ∀ {vs : List V} {ds : List PyData} {i : Nat} {v : V}, DpAll K G vs ds → vs[i]? = some v → ∃ d, ds[i]? = some d ∧ Dp K G v d
  | _, _, _, _, .nil, e => by simp at e
  | _, _, 0, _, .cons h _, e => by simp at e; subst e; exact ⟨_, rfl, h⟩
  | _, _, i + 1, _, .cons _ a, e => by
    obtain ⟨v, h1, h2⟩ := dpa_get' (i := i) a (by simpa using e)
    exact ⟨v, by simpa using h1, h2⟩
def OVok (K : PySem.W.Frag) (G : Hp) : OV → HO → Prop
  | .ho o, u => u = o
  | .dl l, u => ∃ vs, u = .lst vs ∧ DpAll K G vs l
theorem ov_mono (e : Ex G G') : ∀ {v : OV} {o : HO}, OVok K G v o → OVok K G' v o
  | .ho _, _, h => h
  | .dl _, _, ⟨vs, h1, h2⟩ => ⟨vs, h1, dpa_mono e h2⟩
theorem dpa_append : ∀ {vs us : List V} {ds es : List PyData}, DpAll K G vs ds → DpAll K G us es → DpAll K G (vs ++ us) (ds ++ es)
  | _, _, _, _, .nil, b => b
  | _, _, _, _, .cons h a, b => .cons h (dpa_append a b)
theorem dpa_take : ∀ {vs : List V} {ds : List PyData} (n : Nat), DpAll K G vs ds → DpAll K G (vs.take n) (ds.take n)
  | _, _, 0, _ => .nil
  | _, _, _ + 1, .nil => .nil
  | _, _, n + 1, .cons h a => .cons h (dpa_take n a)
theorem dpa_drop : ∀ {vs : List V} {ds : List PyData} (n : Nat), DpAll K G vs ds → DpAll K G (vs.drop n) (ds.drop n)
  | _, _, 0, a => a
  | _, _, _ + 1, .nil => .nil
  | _, _, n + 1, .cons _ a => dpa_drop n a
end

/-! ### growth: G what nobody changes, m what is owned -/
structure Wd (K : PySem.W.Frag) (m : MS) (G H : Hp) : Prop where
  w : Ex G H
  own : ∀ p ∈ m, G p.1 = none ∧ ∃ o, H p.1 = some o ∧ OVok K G p.2 o
  nd : (ad m).Nodup
structure Gr (K : PySem.W.Frag) (m m' : MS) (G H G' H' : Hp) : Prop where
  g : Ex G G'
  h : ∀ a o, a ∉ ad m → H a = some o → H' a = some o
  th : ∀ a, H a ≠ none → H' a ≠ none
  fr : ∀ a, a ∉ ad m → G a = none → H a ≠ none → G' a = none
  nw : ∀ p ∈ m', p.1 ∈ ad m ∨ H p.1 = none
  wd : Wd K m' G' H'
theorem mem_ad {m : MS} {p : Addr × OV} (h : p ∈ m) : p.1 ∈ ad m := List.mem_map_of_mem h
theorem of_ad {m : MS} {a : Addr} (h : a ∈ ad m) : ∃ o, (a, o) ∈ m := by
  obtain ⟨p, hp, e⟩ := List.mem_map.mp h
  exact ⟨p.2, by rw [← e]; exact hp⟩
theorem nn {α : Type} {x : Option α} {o : α} (e : x = some o) : x ≠ none := by rw [e]; exact fun z => nomatch z
section
variable {K : PySem.W.Frag} {m m' m1 m2 : MS} {G H G' H' G1 H1 G2 H2 : Hp}
theorem Gr.refl (w : Wd K m G H) : Gr K m m G H G H := ⟨Ex.refl _, fun _ _ _ e => e, fun _ e => e, fun _ _ e _ => e, fun _ hp => .inl (mem_ad hp), w⟩
theorem Gr.out (a : Gr K m m1 G H G1 H1) {c : Addr} (hc : c ∉ ad m) (e : H c ≠ none) : c ∉ ad m1 := fun z => by
  obtain ⟨u, hu⟩ := of_ad z
  rcases a.nw _ hu with q | q
  · exact hc q
  · exact e q
theorem Gr.trans (a : Gr K m m1 G H G1 H1) (b : Gr K m1 m2 G1 H1 G2 H2) : Gr K m m2 G H G2 H2 where
  g := a.g.trans b.g
  h := fun c o hc e => b.h c o (a.out hc (nn e)) (a.h c o hc e)
  th := fun c e => b.th c (a.th c e)
  fr := fun c hc e f => b.fr c (a.out hc f) (a.fr c hc e f) (a.th c f)
  nw := fun p hp => by
    rcases b.nw p hp with q | q
    · obtain ⟨u, hu⟩ := of_ad q
      exact a.nw (p.1, u) hu
    · refine .inr ?_
      cases z : H p.1 with
      | none => rfl
      | some o => exact absurd q (a.th _ (nn z))
  wd := b.wd
/-- a new thing that nobody will change -/
theorem Gr.new {p : Addr} {o : HO} (w : Wd K m G H) (hp : H p = none) : Gr K m m G H (upd G p o) (upd H p o) where
  g := Ex.new (w.w.back hp)
  h := fun a u _ e => by rw [upd_ne (ne_of_none e hp)]; exact e
  th := fun a e => by
    by_cases q : a = p
    · subst q; rw [upd_same]; exact fun z => nomatch z
    · rw [upd_ne q]; exact e
  fr := fun a _ e f => by
    by_cases q : a = p
    · subst q; exact absurd hp f
    · rw [upd_ne q]; exact e
  nw := fun q hq => .inl (mem_ad hq)
  wd := ⟨w.w.both, fun q hq => by
    obtain ⟨h1, u, h2, h3⟩ := w.own q hq
    have ne : q.1 ≠ p := ne_of_none h2 hp
    rw [upd_ne ne, upd_ne ne]
    exact ⟨h1, u, h2, ov_mono (Ex.new (w.w.back hp)) h3⟩, w.nd⟩
/-- a new thing that is owned -/
theorem Gr.made {p : Addr} {o : HO} {v : OV} (w : Wd K m G H) (hp : H p = none) (ho : OVok K G v o) : Gr K m ((p, v) :: m) G H G (upd H p o) where
  g := Ex.refl _
  h := fun a u _ e => by rw [upd_ne (ne_of_none e hp)]; exact e
  th := fun a e => by
    by_cases q : a = p
    · subst q; rw [upd_same]; exact fun z => nomatch z
    · rw [upd_ne q]; exact e
  fr := fun a _ e _ => e
  nw := fun q hq => by
    rcases List.mem_cons.mp hq with rfl | hq
    · exact .inr hp
    · exact .inl (mem_ad hq)
  wd := ⟨fun a u e => by rw [upd_ne (ne_of_none (w.w a u e) hp)]; exact w.w a u e, fun q hq => by
    rcases List.mem_cons.mp hq with rfl | hq
    · exact ⟨w.w.back hp, o, upd_same, ho⟩
    · obtain ⟨h1, u, h2, h3⟩ := w.own q hq
      rw [upd_ne (ne_of_none h2 hp)]
      exact ⟨h1, u, h2, h3⟩, by
    refine List.nodup_cons.mpr ⟨fun z => ?_, w.nd⟩
    obtain ⟨u, hu⟩ := of_ad z
    obtain ⟨_, u, q, _⟩ := w.own _ hu
    have q : H p = some u := q
    rw [hp] at q; cases q⟩
/-- the owned thing at p behind a store -/
def mset (m : MS) (p : Addr) (o : OV) : MS := m.map fun q => if q.1 = p then (p, o) else q
theorem ad_mset (m : MS) (p : Addr) (o : OV) : ad (mset m p o) = ad m := by
  unfold ad mset
  rw [List.map_map]
  refine List.map_congr_left fun q _ => ?_
  show (if q.1 = p then (p, o) else q).1 = q.1
  by_cases e : q.1 = p
  · rw [if_pos e]; exact e.symm
  · rw [if_neg e]
theorem Gr.set {p : Addr} {o : HO} {u v : OV} (w : Wd K m G H) (hp : (p, u) ∈ m) (ho : OVok K G v o) : Gr K m (mset m p v) G H G (upd H p o) where
  g := Ex.refl _
  h := fun a x ha e => by
    have ne : a ≠ p := fun z => ha (by rw [z]; exact mem_ad hp)
    rw [upd_ne ne]; exact e
  th := fun a e => by
    by_cases q : a = p
    · subst q; rw [upd_same]; exact fun z => nomatch z
    · rw [upd_ne q]; exact e
  fr := fun a _ e _ => e
  nw := fun q hq => .inl (by rw [← ad_mset m p v]; exact mem_ad hq)
  wd := ⟨fun a x e => by
    have ne : a ≠ p := fun z => by
      have q : G p = none := (w.own _ hp).1
      rw [← z, e] at q; cases q
    rw [upd_ne ne]; exact w.w a x e, fun q hq => by
    obtain ⟨r, hr, e⟩ := List.mem_map.mp hq
    by_cases z : r.1 = p
    · rw [if_pos z] at e
      subst e
      exact ⟨(w.own _ hp).1, o, upd_same, ho⟩
    · rw [if_neg z] at e
      subst e
      rw [upd_ne z]
      exact w.own r hr, by rw [ad_mset]; exact w.nd⟩
theorem Wd.perm (w : Wd K m G H) (h : m.Perm m') : Wd K m' G H := ⟨w.w, fun p hp => w.own p (h.mem_iff.mpr hp), (h.map _).nodup_iff.mp w.nd⟩
/-- what one owns beside stays -/
theorem Gr.frame {fr : MS} (w : Wd K (fr ++ m) G H) (a : Gr K m m' G H G' H') : Gr K (fr ++ m) (fr ++ m') G H G' H' where
  g := a.g
  h := fun b o hb e => a.h b o (fun z => hb (by unfold ad at *; rw [List.map_append]; exact List.mem_append_right _ z)) e
  th := a.th
  fr := fun b hb => a.fr b fun z => hb (by unfold ad at *; rw [List.map_append]; exact List.mem_append_right _ z)
  nw := fun p hp => by
    rcases List.mem_append.mp hp with hp | hp
    · exact .inl (mem_ad (List.mem_append_left _ hp))
    · rcases a.nw p hp with q | q
      · exact .inl (by unfold ad at *; rw [List.map_append]; exact List.mem_append_right _ q)
      · exact .inr q
  wd := by
    have nd := w.nd
    unfold ad at nd
    rw [List.map_append, List.nodup_append] at nd
    obtain ⟨n1, n2, n3⟩ := nd
    have fresh : ∀ p ∈ fr, p.1 ∉ ad m := fun p hp z => n3 _ (List.mem_map_of_mem hp) _ z rfl
    refine ⟨a.wd.w, fun p hp => ?_, ?_⟩
    · rcases List.mem_append.mp hp with hp | hp
      · obtain ⟨h1, u, h2, h3⟩ := w.own p (List.mem_append_left _ hp)
        exact ⟨a.fr _ (fresh p hp) h1 (nn h2), u, a.h _ _ (fresh p hp) h2, ov_mono a.g h3⟩
      · exact a.wd.own p hp
    · unfold ad
      rw [List.map_append, List.nodup_append]
      refine ⟨n1, a.wd.nd, fun x hx y hy z => ?_⟩
      subst z
      obtain ⟨p, hp, rfl⟩ := List.mem_map.mp hx
      obtain ⟨q, hq, e⟩ := List.mem_map.mp hy
      rcases a.nw q hq with r | r
      · rw [e] at r; exact fresh p hp r
      · obtain ⟨_, u, h2, _⟩ := w.own p (List.mem_append_left _ hp)
        rw [e, h2] at r; cases r
theorem Wd.sub {fr : MS} (w : Wd K (fr ++ m) G H) : Wd K m G H := ⟨w.w, fun p hp => w.own p (List.mem_append_right _ hp), by
  have nd := w.nd
  unfold ad at nd ⊢
  rw [List.map_append, List.nodup_append] at nd
  exact nd.2.1⟩
/-- an owned thing is given up: nobody will change it from here on -/
theorem Gr.seal {p : Addr} {o : HO} {v : OV} (w : Wd K ((p, v) :: m) G H) (ho : H p = some o) : Gr K ((p, v) :: m) m G H (upd G p o) H where
  g := Ex.new (w.own _ List.mem_cons_self).1
  h := fun _ _ _ e => e
  th := fun _ e => e
  fr := fun a ha e f => by
    have ne : a ≠ p := fun z => ha (by rw [z]; exact List.mem_cons_self)
    rw [upd_ne ne]; exact e
  nw := fun q hq => .inl (mem_ad (List.mem_cons_of_mem _ hq))
  wd := by
    have nd := w.nd
    unfold ad at nd
    rw [List.map_cons, List.nodup_cons] at nd
    refine ⟨fun a u e => ?_, fun q hq => ?_, nd.2⟩
    · by_cases z : a = p
      · subst z; rw [upd_same] at e; cases e; exact ho
      · rw [upd_ne z] at e; exact w.w a u e
    · obtain ⟨h1, u, h2, h3⟩ := w.own q (List.mem_cons_of_mem _ hq)
      have ne : q.1 ≠ p := fun z => nd.1 (List.mem_map.mpr ⟨q, hq, z⟩)
      rw [upd_ne ne]
      exact ⟨h1, u, h2, ov_mono (Ex.new (w.own _ List.mem_cons_self).1) h3⟩
/-- an owned thing is forgotten -/
theorem Gr.drop {p : Addr} {v : OV} (w : Wd K ((p, v) :: m) G H) : Gr K ((p, v) :: m) m G H G H := ⟨Ex.refl _, fun _ _ _ e => e, fun _ e => e, fun _ _ e _ => e, fun q hq => .inl (mem_ad (List.mem_cons_of_mem _ hq)),
  ⟨w.w, fun q hq => w.own q (List.mem_cons_of_mem _ hq), by
    have nd := w.nd
    unfold ad at nd ⊢
    rw [List.map_cons, List.nodup_cons] at nd
    exact nd.2⟩⟩
end
end W9
namespace W9
open PySem PySem.Spec PyProof.Rows L2

/-! ### what is wanted of a state, by the syntax itself -/
section
variable (X : Cx)
def wE (e : Expr) : TE := fun σ H Q => ∀ pins s, Inv X pins σ H s → wpAny (model X.prog X.w) X.A (eval e X.env) (EP X pins σ Q) X.xe s
def wT (e : Expr) : TT := fun σ H Q => ∀ pins s, Inv X pins σ H s → wpAny (model X.prog X.w) X.A (isTrue e X.env (eval e X.env)) (TP X pins σ Q) X.xe s
def wA (es : List Expr) : TA := fun σ H Q => ∀ (pos : Pos) pins s, Inv X pins σ H s → wpAny (model X.prog X.w) X.A (spliced (backTo pos (starEach es X.env))) (AP X pins σ Q) X.xe s
def wS (st : Stmt) : TS := fun D σ H => ∀ pins s, Inv X pins σ H s → wpAny (model X.prog X.w) X.A (exec st X.env) (SP X pins D) X.xe s
def wSs (st : List Stmt) : TS := fun D σ H => ∀ pins s, Inv X pins σ H s → wpAny (model X.prog X.w) X.A (execs st X.env) (SP X pins D) X.xe s
def wG (tg : Expr) : TG := fun v σ H Q => ∀ pins s u, Inv X pins σ H s → RelV v u → wpAny (model X.prog X.w) X.A (assign tg X.env u) (fun _ s' => ∃ σ' H', Inv X pins σ' H' s' ∧ Q σ' H') X.xe s
def wGs (ts : List Expr) : TGs := fun vs σ H Q => ∀ pins s us, Inv X pins σ H s → Vals vs us → wpAny (model X.prog X.w) X.A (assignInOrder ((assignEach ts X.env).map (·.2)) us) (fun _ s' => ∃ σ' H', Inv X pins σ' H' s' ∧ Q σ' H') X.xe s
def wI (tg iter : Expr) : TI := fun σ H R => ∀ pins s, Inv X pins σ H s → wpAny (model X.prog X.w) X.A (eval iter X.env) (fun v s1 => wpAny (model X.prog X.w) X.A (pyIter v) (PIE X pins σ tg R) X.xe s1) X.xe s
def wP (e : Option Expr) : TO := fun σ H Q => ∀ pins s, Inv X pins σ H s → wpAny (model X.prog X.w) X.A (evalPart e X.env) (fun u s' => ∃ o H', Inv X pins σ H' s' ∧ IsPart u o ∧ Q o H') X.xe s
def wTs (ifs : List Expr) : TT := fun σ H Q => ∀ pins s, Inv X pins σ H s → wpAny (model X.prog X.w) X.A (forIn ifs true fun c r => if r = true then do let ok ← isTrue c X.env (eval c X.env); pure (ForInStep.yield ok) else pure (ForInStep.yield r)) (TP X pins σ Q) X.xe s
end
section
variable {X : Cx}
theorem pE (e : Expr) : PE X e (wE X e) := ⟨fun pins s σ H Q I h => h pins s I⟩
theorem pT (e : Expr) : PT X e (wT X e) := ⟨fun pins s σ H Q I h => h pins s I⟩
theorem pA (es : List Expr) : PA X es (wA X es) := ⟨fun pos pins s σ H Q I h => h pos pins s I⟩
theorem pS (st : Stmt) : PS X st (wS X st) := ⟨fun pins s σ H D I h => h pins s I⟩
theorem pSs (st : List Stmt) : PSs X st (wSs X st) := ⟨fun pins s σ H D I h => h pins s I⟩
theorem pG (tg : Expr) : PG X tg (wG X tg) := ⟨fun pins s σ H v u Q I r h => h pins s u I r⟩
theorem pGs (tg : List Expr) : PGs X tg (wGs X tg) := ⟨fun pins s σ H v u Q I r h => h pins s u I r⟩
theorem pI (tg iter : Expr) : PI X tg iter (wI X tg iter) := ⟨fun pins s σ H R I h => h pins s I⟩
theorem pO (e : Option Expr) : PO X e (wP X e) := ⟨fun pins s σ H Q I h => h pins s I⟩
theorem pTs (ifs : List Expr) : PTs X ifs (wTs X ifs) := ⟨fun pins s σ H Q I h => h pins s I⟩
theorem oE {e : Expr} {t : TE} (p : PE X e t) {σ : L2.St} {H : Hp} {Q : VK} (h : t σ H Q) : wE X e σ H Q := fun pins s I => p.run pins s σ H Q I h
theorem oT {e : Expr} {t : TT} (p : PT X e t) {σ : L2.St} {H : Hp} {Q : Bool → Hp → Prop} (h : t σ H Q) : wT X e σ H Q := fun pins s I => p.run pins s σ H Q I h
theorem oA {es : List Expr} {t : TA} (p : PA X es t) {σ : L2.St} {H : Hp} {Q : List V → Hp → Prop} (h : t σ H Q) : wA X es σ H Q := fun pos pins s I => p.run pos pins s σ H Q I h
theorem oS {st : Stmt} {t : TS} (p : PS X st t) {σ : L2.St} {H : Hp} {D : Ends} (h : t D σ H) : wS X st D σ H := fun pins s I => p.run pins s σ H D I h
theorem oSs {st : List Stmt} {t : TS} (p : PSs X st t) {σ : L2.St} {H : Hp} {D : Ends} (h : t D σ H) : wSs X st D σ H := fun pins s I => p.run pins s σ H D I h
theorem oG {tg : Expr} {t : TG} (p : PG X tg t) {v : V} {σ : L2.St} {H : Hp} {Q : L2.St → Hp → Prop} (h : t v σ H Q) : wG X tg v σ H Q := fun pins s u I r => p.run pins s σ H v u Q I r h
theorem oI {tg iter : Expr} {t : TI} (p : PI X tg iter t) {σ : L2.St} {H : Hp} {R : It → Hp → Prop} (h : t σ H R) : wI X tg iter σ H R := fun pins s I => p.run pins s σ H R I h
end

/-! ### the judgements over data -/
def EnvD (K : PySem.W.Frag) (G : Hp) (σ : L2.St) (ds : DE) : Prop := σ.length = ds.length ∧ ∀ (i : Nat) (d : SD), ds[i]? = some (some d) → ∃ v, σ[i]? = some (some v) ∧ DS K G v d
section
variable {K : PySem.W.Frag} {G G' : Hp} {σ : L2.St} {ds : DE}
theorem EnvD.mono (E : EnvD K G σ ds) (e : Ex G G') : EnvD K G' σ ds := ⟨E.1, fun i d h => let ⟨v, h1, h2⟩ := E.2 i d h; ⟨v, h1, ds_mono e h2⟩⟩
theorem EnvD.set (E : EnvD K G σ ds) {i : Nat} {v : V} {d : SD} (h : DS K G v d) : EnvD K G (σ.set i (some v)) (ds.set i (some d)) := by
  refine ⟨by rw [List.length_set, List.length_set]; exact E.1, fun j e he => ?_⟩
  by_cases hj : i = j
  · subst hj
    by_cases hl : i < ds.length
    · rw [List.getElem?_set_self hl] at he
      have hs : i < σ.length := by rw [E.1]; exact hl
      rw [List.getElem?_set_self hs]
      cases he
      exact ⟨v, rfl, h⟩
    · rw [List.getElem?_eq_none (by rw [List.length_set]; omega)] at he; cases he
  · rw [List.getElem?_set_ne hj] at he ⊢
    exact E.2 j e he
end
section
variable (X : Cx)
def WE (e : Expr) (ds : DE) (m : MS) (P : SD → MS → Prop) : Prop := ∀ σ G H, EnvD X.K G σ ds → Wd X.K m G H → ∀ Q : VK, (∀ v d m' G' H', Gr X.K m m' G H G' H' → DS X.K G' v d → P d m' → Q v H') → wE X e σ H Q
def WT (e : Expr) (ds : DE) (m : MS) (P : Bool → MS → Prop) : Prop := ∀ σ G H, EnvD X.K G σ ds → Wd X.K m G H → ∀ Q : Bool → Hp → Prop, (∀ b m' G' H', Gr X.K m m' G H G' H' → P b m' → Q b H') → wT X e σ H Q
def WTs (es : List Expr) (ds : DE) (m : MS) (P : Bool → MS → Prop) : Prop := ∀ σ G H, EnvD X.K G σ ds → Wd X.K m G H → ∀ Q : Bool → Hp → Prop, (∀ b m' G' H', Gr X.K m m' G H G' H' → P b m' → Q b H') → wTs X es σ H Q
def WA (es : List Expr) (ds : DE) (m : MS) (P : List SD → MS → Prop) : Prop := ∀ σ G H, EnvD X.K G σ ds → Wd X.K m G H → ∀ Q : List V → Hp → Prop, (∀ vs xs m' G' H', Gr X.K m m' G H G' H' → DSs X.K G' vs xs → P xs m' → Q vs H') → wA X es σ H Q
def WO (e : Option Expr) (ds : DE) (m : MS) (P : Option Int → MS → Prop) : Prop := ∀ σ G H, EnvD X.K G σ ds → Wd X.K m G H → ∀ Q : Option Int → Hp → Prop, (∀ o m' G' H', Gr X.K m m' G H G' H' → P o m' → Q o H') → wP X e σ H Q
/-- a target: the slots js alone are written -/
def WG (tg : Expr) (js : List Nat) (x : SD) (ds : DE) (m : MS) (P : DE → MS → Prop) : Prop := ∀ σ G H v, EnvD X.K G σ ds → Wd X.K m G H → DS X.K G v x → ∀ Q : L2.St → Hp → Prop,
  (∀ σ' ds' m' G' H', Gr X.K m m' G H G' H' → EnvD X.K G' σ' ds' → ((∀ i, i ∉ js → σ'[i]? = σ[i]?) ∧ σ'.length = σ.length) → P ds' m' → Q σ' H') → wG X tg v σ H Q
def WGs (tgs : List Expr) (js : List Nat) (xs : List SD) (ds : DE) (m : MS) (P : DE → MS → Prop) : Prop := ∀ σ G H vs, EnvD X.K G σ ds → Wd X.K m G H → DSs X.K G vs xs → ∀ Q : L2.St → Hp → Prop,
  (∀ σ' ds' m' G' H', Gr X.K m m' G H G' H' → EnvD X.K G' σ' ds' → ((∀ i, i ∉ js → σ'[i]? = σ[i]?) ∧ σ'.length = σ.length) → P ds' m' → Q σ' H') → wGs X tgs vs σ H Q
structure ED where
  nx : DE → MS → Prop
  rt : SD → MS → Prop := fun _ _ => False
  bk : DE → MS → Prop := fun _ _ => False
  ct : DE → MS → Prop := fun _ _ => False
structure EndsOk (K : PySem.W.Frag) (m : MS) (G H : Hp) (E : ED) (D : Ends) : Prop where
  nx : ∀ σ' ds' m' G' H', Gr K m m' G H G' H' → EnvD K G' σ' ds' → E.nx ds' m' → D.nx σ' H'
  rt : ∀ v d m' G' H', Gr K m m' G H G' H' → DS K G' v d → E.rt d m' → D.rt v H'
  bk : ∀ σ' ds' m' G' H', Gr K m m' G H G' H' → EnvD K G' σ' ds' → E.bk ds' m' → D.bk σ' H'
  ct : ∀ σ' ds' m' G' H', Gr K m m' G H G' H' → EnvD K G' σ' ds' → E.ct ds' m' → D.ct σ' H'
def WS (st : Stmt) (ds : DE) (m : MS) (E : ED) : Prop := ∀ σ G H, EnvD X.K G σ ds → Wd X.K m G H → ∀ D, EndsOk X.K m G H E D → wS X st D σ H
def WSs (st : List Stmt) (ds : DE) (m : MS) (E : ED) : Prop := ∀ σ G H, EnvD X.K G σ ds → Wd X.K m G H → ∀ D, EndsOk X.K m G H E D → wSs X st D σ H
/-- a plain value, whatever is owned -/
def EE (e : Expr) (ds : DE) (d : SD) : Prop := ∀ m, WE X e ds m fun d' m' => d' = d ∧ m' = m
def ET (e : Expr) (ds : DE) (b : Bool) : Prop := ∀ m, WT X e ds m fun b' m' => b' = b ∧ m' = m
def EA (es : List Expr) (ds : DE) (xs : List SD) : Prop := ∀ m, WA X es ds m fun d' m' => d' = xs ∧ m' = m
end
theorem EndsOk.after {K : PySem.W.Frag} {m m1 : MS} {G H G1 H1 : Hp} {E : ED} {D : Ends} (k : EndsOk K m G H E D) (g : Gr K m m1 G H G1 H1) : EndsOk K m1 G1 H1 E D :=
  ⟨fun σ' ds' m' G' H' a => k.nx σ' ds' m' G' H' (g.trans a), fun v d m' G' H' a => k.rt v d m' G' H' (g.trans a), fun σ' ds' m' G' H' a => k.bk σ' ds' m' G' H' (g.trans a), fun σ' ds' m' G' H' a => k.ct σ' ds' m' G' H' (g.trans a)⟩
section
variable {X : Cx} {ds : DE} {m : MS} {e a b c : Expr} {pos : Pos}
theorem WE.mono {P P' : SD → MS → Prop} (h : WE X e ds m P) (k : ∀ d m', P d m' → P' d m') : WE X e ds m P' := fun σ G H E w Q q => h σ G H E w Q fun v d m' G' H' g r p => q v d m' G' H' g r (k d m' p)
theorem WT.mono {P P' : Bool → MS → Prop} (h : WT X e ds m P) (k : ∀ d m', P d m' → P' d m') : WT X e ds m P' := fun σ G H E w Q q => h σ G H E w Q fun v m' G' H' g p => q v m' G' H' g (k v m' p)
theorem WA.mono {es : List Expr} {P P' : List SD → MS → Prop} (h : WA X es ds m P) (k : ∀ d m', P d m' → P' d m') : WA X es ds m P' := fun σ G H E w Q q => h σ G H E w Q fun v d m' G' H' g r p => q v d m' G' H' g r (k d m' p)
theorem EE.to {d : SD} {P : SD → MS → Prop} (h : EE X e ds d) (p : P d m) : WE X e ds m P := (h m).mono fun d' m' ⟨e1, e2⟩ => by subst e1 e2; exact p
theorem ET.to {d : Bool} {P : Bool → MS → Prop} (h : ET X e ds d) (p : P d m) : WT X e ds m P := (h m).mono fun d' m' ⟨e1, e2⟩ => by subst e1 e2; exact p
theorem EA.to {es : List Expr} {d : List SD} {P : List SD → MS → Prop} (h : EA X es ds d) (p : P d m) : WA X es ds m P := (h m).mono fun d' m' ⟨e1, e2⟩ => by subst e1 e2; exact p
theorem EE.is {d d' : SD} (h : EE X e ds d) (q : d = d') : EE X e ds d' := by rw [← q]; exact h
theorem ET.is {d d' : Bool} (h : ET X e ds d) (q : d = d') : ET X e ds d' := by rw [← q]; exact h

/-! ### names, constants -/
theorem we_var {i : Nat} {x : Str} {d : SD} {P : SD → MS → Prop} (hd : ds[i]? = some (some d)) (hN : X.N[i]? = some x) (hv : Vis X.env.scope x) (p : P d m)
    (hdb : (x == ("__debug__" : Str)) = false := by decide) (hcd : (x == ("__classdict__" : Str)) = false := by decide) : WE X (.Name x pos) ds m P := fun σ G H E w Q q => by
  obtain ⟨v, h1, h2⟩ := E.2 i d hd
  exact oE (pe_var hN hv hdb hcd) ⟨v, h1, q v d m G H (.refl w) h2 p⟩
theorem ee_var {i : Nat} {x : Str} {d : SD} (hd : ds[i]? = some (some d)) (hN : X.N[i]? = some x := by rfl) (hv : Vis X.env.scope x := by first | exact Or.inl rfl | exact Or.inr (Or.inl rfl) | exact Or.inr (Or.inr rfl))
    (hdb : (x == ("__debug__" : Str)) = false := by decide) (hcd : (x == ("__classdict__" : Str)) = false := by decide) : EE X (.Name x pos) ds d := fun m => we_var hd hN hv ⟨rfl, rfl⟩ hdb hcd
abbrev I (i : Int) : SD := .py (.int i)
abbrev B (b : Bool) : SD := .py (.bool b)
abbrev S (l : List Nat) : SD := .py (.str ⟨l.toArray⟩)
abbrev N0 : SD := .py .none
abbrev Tp (l : List PyData) : SD := .py (.tuple l)
abbrev Ls (l : List PyData) : SD := .py (.list l)
theorem ee_c {v : V} {d : SD} (p : PE X e (tC v)) (h : ∀ G, DS X.K G v d) : EE X e ds d := fun m σ G H E w Q q => oE p (q v d m G H (.refl w) (h G) ⟨rfl, rfl⟩)
theorem ee_int {i j} : EE X (.Constant (.int i) j pos) ds (I i) := ee_c pe_int fun _ => .py (.int i)
theorem ee_bl {i j} : EE X (.Constant (.bool i) j pos) ds (B i) := ee_c pe_bl fun _ => .py (.bl i)
theorem ee_non {j} : EE X (.Constant .none j pos) ds N0 := ee_c pe_non fun _ => .py .non
theorem ee_str {i j} : EE X (.Constant (.str i) j pos) ds (.py (.str i)) := ee_c pe_str fun _ => .py (.str i)
theorem ee_strS {i j} {l : List Nat} (h : i = ⟨l.toArray⟩ := by first | rfl | decide +kernel) : EE X (.Constant (.str i) j pos) ds (S l) := ee_c pe_str fun _ => by rw [h]; exact .py (.str _)
theorem ee_glob {x : Str} {v : V} {u : Value} {d : SD} (hm : X.mg x = some u) (r : RelV v u) (h : ∀ G, DS X.K G v d) (hg : Gl X x := by rfl) (hd : (x == ("__debug__" : Str)) = false := by decide) : EE X (.Name x pos) ds d := ee_c (pe_glob hg hm r hd) h

/-! ### operations on values -/
/-- x op y is z -/
def R2D (X : Cx) (m : MS) (r : R2) (x y z : SD) : Prop := ∀ G H v u, Wd X.K m G H → DS X.K G v x → DS X.K G u y → ∀ Q : VK, (∀ w G' H', Gr X.K m m G H G' H' → DS X.K G' w z → Q w H') → r v u H Q
def BinD (X : Cx) (op : Operator) (x y z : SD) : Prop := ∃ r, OpR X (binaryOp op) r ∧ ∀ m, R2D X m r x y z
def CmpD (X : Cx) (op : CmpOp) (x y : SD) (z : Bool) : Prop := ∃ r, OpR X (compareOp op) r ∧ ∀ m, R2D X m r x y (B z)
def SubD (X : Cx) (m : MS) (x y z : SD) : Prop := ∃ r, IxR X r ∧ R2D X m r x y z
theorem we_bin {op : Operator} {P : SD → MS → Prop} (h : WE X a ds m fun x m1 => WE X b ds m1 fun y m2 => ∃ z, BinD X op x y z ∧ P z m2) : WE X (.BinOp a op b pos) ds m P := fun σ G H E w Q q => by
  intro pins s I
  refine wpAny_BinOp (binT (pE a) (pE b) (R := fun v u H2 => ∃ r, OpR X (binaryOp op) r ∧ r v u H2 Q) I ?_ fun v u s2 x y H2 I2 rx ry ⟨r, ho, hr⟩ => ho pins s2 σ H2 x y v u Q I2 rx ry hr)
  refine h σ G H E w _ fun v x m1 G1 H1 g1 r1 p1 => p1 σ G1 H1 (E.mono g1.g) g1.wd _ fun u y m2 G2 H2 g2 r2 ⟨z, ⟨r, ho, hr⟩, p⟩ => ⟨r, ho, ?_⟩
  exact hr m2 G2 H2 v u g2.wd (ds_mono g2.g r1) r2 Q fun w' G3 H3 g3 r3 => q w' z m2 G3 H3 ((g1.trans g2).trans g3) r3 p
theorem ee_bin {op : Operator} {x y z : SD} (ha : EE X a ds x) (hb : EE X b ds y) (hr : BinD X op x y z) : EE X (.BinOp a op b pos) ds z := fun m => we_bin (ha.to (hb.to ⟨z, hr, rfl, rfl⟩))
theorem nomk {b : Expr} {op : CmpOp} (h : op ≠ .In) (h2 : op ≠ .NotIn) : behindInMarks op b = false := nobehind b h h2
theorem we_cmp {op : CmpOp} {P : SD → MS → Prop} (h : WE X a ds m fun x m1 => WE X b ds m1 fun y m2 => ∃ z, CmpD X op x y z ∧ P (B z) m2) (hm : behindInMarks op b = false := by first | exact nobehind _ (by decide) (by decide) | rfl) : WE X (.Compare a [op] [b] pos) ds m P := fun σ G H E w Q q => by
  intro pins s I
  refine wpAny_Compare1 (binT (pE a) (pE b) (R := fun v u H2 => ∃ r, OpR X (compareOp op) r ∧ r v u H2 Q) I ?_ fun v u s2 x y H2 I2 rx ry ⟨r, ho, hr⟩ => ho pins s2 σ H2 x y v u Q I2 rx ry hr) hm
  refine h σ G H E w _ fun v x m1 G1 H1 g1 r1 p1 => p1 σ G1 H1 (E.mono g1.g) g1.wd _ fun u y m2 G2 H2 g2 r2 ⟨z, ⟨r, ho, hr⟩, p⟩ => ⟨r, ho, ?_⟩
  exact hr m2 G2 H2 v u g2.wd (ds_mono g2.g r1) r2 Q fun w' G3 H3 g3 r3 => q w' (B z) m2 G3 H3 ((g1.trans g2).trans g3) r3 p
theorem ee_cmp {op : CmpOp} {x y : SD} {z : Bool} (ha : EE X a ds x) (hb : EE X b ds y) (hr : CmpD X op x y z) (hm : behindInMarks op b = false := by first | exact nobehind _ (by decide) (by decide) | rfl) : EE X (.Compare a [op] [b] pos) ds (B z) := fun m => we_cmp (ha.to (hb.to ⟨z, hr, rfl, rfl⟩)) hm
theorem ds_bl {K : PySem.W.Frag} {G : Hp} {v : V} {z : Bool} (h : DS K G v (B z)) : v = .bl z := by
  cases h with
  | py h => cases h; rfl
theorem ds_int {K : PySem.W.Frag} {G : Hp} {v : V} {z : Int} (h : DS K G v (I z)) : v = .int z := by
  cases h with
  | py h => cases h; rfl
theorem ds_str {K : PySem.W.Frag} {G : Hp} {v : V} {z : Str} (h : DS K G v (.py (.str z))) : v = .str z := by
  cases h with
  | py h => cases h; rfl
theorem ds_non {K : PySem.W.Frag} {G : Hp} {v : V} (h : DS K G v N0) : v = .non := by
  cases h with
  | py h => cases h; rfl
theorem ds_tup {K : PySem.W.Frag} {G : Hp} {v : V} {l : List PyData} (h : DS K G v (Tp l)) : ∃ a xs, v = .ref a ∧ SqT K G a xs ∧ DpAll K G xs l := by
  cases h with
  | py h => cases h with
    | tup h1 h2 => exact ⟨_, _, rfl, h1, h2⟩
theorem ds_lst {K : PySem.W.Frag} {G : Hp} {v : V} {l : List PyData} (h : DS K G v (Ls l)) : ∃ a xs, v = .ref a ∧ SqL K G a xs ∧ DpAll K G xs l := by
  cases h with
  | py h => cases h with
    | lst h1 h2 => exact ⟨_, _, rfl, h1, h2⟩
theorem ds_raw {K : PySem.W.Frag} {G : Hp} {v u : V} (h : DS K G v (.raw u)) : v = u := by cases h; rfl
theorem wt_cmp {op : CmpOp} {P : Bool → MS → Prop} (h : WE X a ds m fun x m1 => WE X b ds m1 fun y m2 => ∃ z, CmpD X op x y z ∧ P z m2) (hm : behindInMarks op b = false := by first | exact nobehind _ (by decide) (by decide) | rfl) : WT X (.Compare a [op] [b] pos) ds m P := fun σ G H E w Q q => by
  have p : PC X op a b (fun σ H Q => wE X a σ H fun v H1 => wE X b σ H1 fun u H2 => ∃ r, OpR X (compareOp op) r ∧ r v u H2 Q) := by
    refine ⟨fun pins s σ H Q I h => ?_⟩
    refine thn ((pE a).run pins s σ H _ I h) fun v s1 ⟨x, H1, I1, r1, q1⟩ => ?_
    refine thn ((pE b).run pins s1 σ H1 _ I1 q1) fun u s2 ⟨y, H2, I2, r2, ⟨r, ho, hr⟩⟩ => ?_
    exact ho pins s2 σ H2 x y v u Q I2 r1 r2 hr
  refine oT (pt_cmp p hm) ?_
  refine h σ G H E w _ fun v x m1 G1 H1 g1 r1 p1 => p1 σ G1 H1 (E.mono g1.g) g1.wd _ fun u y m2 G2 H2 g2 r2 ⟨z, ⟨r, ho, hr⟩, p⟩ => ⟨r, ho, ?_⟩
  exact hr m2 G2 H2 v u g2.wd (ds_mono g2.g r1) r2 _ fun w' G3 H3 g3 r3 => ⟨z, ds_bl r3, q z m2 G3 H3 ((g1.trans g2).trans g3) p⟩
theorem et_cmp {op : CmpOp} {x y : SD} {z : Bool} (ha : EE X a ds x) (hb : EE X b ds y) (hr : CmpD X op x y z) (hm : behindInMarks op b = false := by first | exact nobehind _ (by decide) (by decide) | rfl) : ET X (.Compare a [op] [b] pos) ds z := fun m => wt_cmp (ha.to (hb.to ⟨z, hr, rfl, rfl⟩)) hm
/-- a < b < c -/
theorem we_chain {op op' : CmpOp} {x y z : SD} {k l : Bool} (ha : EE X a ds x) (hb : EE X b ds y) (hc : EE X c ds z) (h1 : CmpD X op x y k) (h2 : CmpD X op' y z l) (hm : lastMarks [op, op'] [b, c] = false) :
    EE X (.Compare a [op, op'] [b, c] pos) ds (B (k && l)) ∧ ET X (.Compare a [op, op'] [b, c] pos) ds (k && l) := by
  obtain ⟨r, ho, hr⟩ := h1
  obtain ⟨r', ho', hr'⟩ := h2
  refine ⟨fun m σ G H E w Q q => oE (pe_chain ho ho' (pE a) (pE b) (pE c) hm) ?_, fun m σ G H E w Q q => oT (pt_chain ho ho' (pE a) (pE b) (pE c) hm) ?_⟩
  · refine ha m σ G H E w _ fun v x' m1 G1 H1 g1 r1 ⟨e1, e2⟩ => ?_
    subst e1 e2
    refine hb m1 σ G1 H1 (E.mono g1.g) g1.wd _ fun u y' m2 G2 H2 g2 r2 ⟨e1, e2⟩ => ?_
    subst e1 e2
    refine hr m2 G2 H2 v u g2.wd (ds_mono g2.g r1) r2 _ fun w' G3 H3 g3 r3 => ⟨k, ds_bl r3, ?_⟩
    cases k with
    | false =>
      rw [if_neg Bool.false_ne_true]
      exact q _ _ _ _ _ ((g1.trans g2).trans g3) (.py (.bl false)) ⟨rfl, rfl⟩
    | true =>
      rw [if_pos rfl]
      refine hc m2 σ G3 H3 (E.mono ((g1.trans g2).trans g3).g) g3.wd _ fun t z' m4 G4 H4 g4 r4 ⟨e1, e2⟩ => ?_
      subst e1 e2
      refine hr' m4 G4 H4 u t g4.wd (ds_mono (g3.trans g4).g r2) r4 _ fun w'' G5 H5 g5 r5 => ?_
      exact q _ _ _ _ _ ((((g1.trans g2).trans g3).trans g4).trans g5) r5 ⟨rfl, rfl⟩
  · refine ha m σ G H E w _ fun v x' m1 G1 H1 g1 r1 ⟨e1, e2⟩ => ?_
    subst e1 e2
    refine hb m1 σ G1 H1 (E.mono g1.g) g1.wd _ fun u y' m2 G2 H2 g2 r2 ⟨e1, e2⟩ => ?_
    subst e1 e2
    refine hr m2 G2 H2 v u g2.wd (ds_mono g2.g r1) r2 _ fun w' G3 H3 g3 r3 => ⟨k, ds_bl r3, ?_⟩
    cases k with
    | false =>
      rw [if_neg Bool.false_ne_true]
      exact ⟨_, rfl, q _ _ _ _ ((g1.trans g2).trans g3) ⟨rfl, rfl⟩⟩
    | true =>
      rw [if_pos rfl]
      refine hc m2 σ G3 H3 (E.mono ((g1.trans g2).trans g3).g) g3.wd _ fun t z' m4 G4 H4 g4 r4 ⟨e1, e2⟩ => ?_
      subst e1 e2
      refine hr' m4 G4 H4 u t g4.wd (ds_mono (g3.trans g4).g r2) r4 _ fun w'' G5 H5 g5 r5 => ?_
      exact ⟨_, ds_bl r5, q _ _ _ _ ((((g1.trans g2).trans g3).trans g4).trans g5) ⟨rfl, rfl⟩⟩
end
end W9
namespace W9
open PySem PySem.Spec PyProof.Rows L2
/-! ### tests: and, or, not -/
def wW (X : Cx) (e : Expr) : TT := fun σ H Q => ∀ whole pins s, Inv X pins σ H s → wpAny (model X.prog X.w) X.A (isTrue e X.env whole) (TP X pins σ Q) X.xe s
theorem pW {X : Cx} (e : Expr) : PW X e (wW X e) := ⟨fun wh pins s σ H Q I h => h wh pins s I⟩
theorem oW {X : Cx} {e : Expr} {t : TT} (p : PW X e t) {σ : L2.St} {H : Hp} {Q : Bool → Hp → Prop} (h : t σ H Q) : wW X e σ H Q := fun wh pins s I => p.run wh pins s σ H Q I h
def EW (X : Cx) (e : Expr) (ds : DE) (b : Bool) : Prop := ∀ m σ G H, EnvD X.K G σ ds → Wd X.K m G H → ∀ Q : Bool → Hp → Prop, (∀ b' m' G' H', Gr X.K m m' G H G' H' → (b' = b ∧ m' = m) → Q b' H') → wW X e σ H Q
section
variable {X : Cx} {ds : DE} {m : MS} {e a b c : Expr} {es rest : List Expr} {pos : Pos}
theorem EW.is {d d' : Bool} (h : EW X e ds d) (q : d = d') : EW X e ds d' := by rw [← q]; exact h
theorem et_w {k : Bool} (h : EW X e ds k) : ET X e ds k := fun m σ G H E w Q q => oT (pW e).pt (h m σ G H E w Q q)
theorem ew_and1 {k : Bool} (h : ET X a ds k) : EW X (.BoolOp .And [a] pos) ds k := fun m σ G H E w Q q => oW (pw_and1 (pT a)) (h m σ G H E w Q q)
theorem ew_or1 {k : Bool} (h : ET X a ds k) : EW X (.BoolOp .Or [a] pos) ds k := fun m σ G H E w Q q => oW (pw_or1 (pT a)) (h m σ G H E w Q q)
theorem ew_and {k l : Bool} (h : ET X a ds k) (h2 : k = true → EW X (.BoolOp .And (b :: rest) pos) ds l) : EW X (.BoolOp .And (a :: b :: rest) pos) ds (k && l) := fun m σ G H E w Q q => oW (pw_and (pT a) (pW _)) (by
  refine h m σ G H E w _ fun k' m1 G1 H1 g1 ⟨e1, e2⟩ => ?_
  subst e1 e2
  cases k' with
  | true =>
    rw [if_pos rfl]
    exact h2 rfl m1 σ G1 H1 (E.mono g1.g) g1.wd _ fun l' m2 G2 H2 g2 ⟨e1, e2⟩ => q _ _ _ _ (g1.trans g2) ⟨by rw [e1]; rfl, e2⟩
  | false =>
    rw [if_neg Bool.false_ne_true]
    exact q _ _ _ _ g1 ⟨rfl, rfl⟩)
theorem ew_or {k l : Bool} (h : ET X a ds k) (h2 : k = false → EW X (.BoolOp .Or (b :: rest) pos) ds l) : EW X (.BoolOp .Or (a :: b :: rest) pos) ds (k || l) := fun m σ G H E w Q q => oW (pw_or (pT a) (pW _)) (by
  refine h m σ G H E w _ fun k' m1 G1 H1 g1 ⟨e1, e2⟩ => ?_
  subst e1 e2
  cases k' with
  | false =>
    rw [if_neg Bool.false_ne_true]
    exact h2 rfl m1 σ G1 H1 (E.mono g1.g) g1.wd _ fun l' m2 G2 H2 g2 ⟨e1, e2⟩ => q _ _ _ _ (g1.trans g2) ⟨by rw [e1]; rfl, e2⟩
  | true =>
    rw [if_pos rfl]
    exact q _ _ _ _ g1 ⟨rfl, rfl⟩)
theorem et_not {k : Bool} (h : ET X a ds k) : ET X (.UnaryOp .Not a pos) ds (!k) := fun m σ G H E w Q q => oT (pt_not (pT a)) (h m σ G H E w _ fun k' m1 G1 H1 g1 ⟨e1, e2⟩ => q _ _ _ _ g1 ⟨by rw [e1], e2⟩)
theorem wt_not {P : Bool → MS → Prop} (h : WT X a ds m fun k m1 => P (!k) m1) : WT X (.UnaryOp .Not a pos) ds m P := fun σ G H E w Q q => oT (pt_not (pT a)) (h σ G H E w _ fun k' m1 G1 H1 g1 p => q _ _ _ _ g1 p)
theorem wt_val {P : Bool → MS → Prop} (h : WE X e ds m fun d m1 => ∃ k, d = B k ∧ P k m1) (he : ∀ whole, isTrue e X.env whole = (do let v ← whole; standAt e.pos; holding [v] (truthy v)) := by intro _; rfl) : WT X e ds m P := fun σ G H E w Q q =>
  oT (pt_val (pE e) he) (h σ G H E w _ fun v d m1 G1 H1 g1 r1 ⟨k, e1, p⟩ => by subst e1; exact ⟨k, ds_bl r1, q _ _ _ _ g1 p⟩)
theorem et_val {k : Bool} (h : EE X e ds (B k)) (he : ∀ whole, isTrue e X.env whole = (do let v ← whole; standAt e.pos; holding [v] (truthy v)) := by intro _; rfl) : ET X e ds k := fun m => wt_val (h.to ⟨k, rfl, rfl, rfl⟩) he
/-- truth of a value -/
def TruD (X : Cx) (d : SD) (k : Bool) : Prop := ∀ G v, DS X.K G v d → ∀ H, Ex G H → TruV X.K v H k
theorem et_tru {d : SD} {k : Bool} (h : EE X e ds d) (t : TruD X d k) (he : ∀ whole, isTrue e X.env whole = (do let v ← whole; standAt e.pos; holding [v] (truthy v)) := by intro _; rfl) : ET X e ds k := fun m σ G H E w Q q =>
  oT (pt_truth (pE e) he) (h m σ G H E w _ fun v d' m1 G1 H1 g1 r1 ⟨e1, e2⟩ => by subst e1; exact ⟨k, t _ _ r1 _ g1.wd.w, q _ _ _ _ g1 ⟨rfl, e2⟩⟩)
theorem tru_non : TruD X N0 false := fun G v h H e => by cases ds_non h; rfl
theorem tru_bl {k : Bool} : TruD X (B k) k := fun G v h H e => by cases ds_bl h; rfl
theorem tru_tup {l : List PyData} : TruD X (Tp l) (!l.isEmpty) := fun G v h H e => by
  obtain ⟨a, xs, rfl, h1, h2⟩ := ds_tup h
  refine .inr (.inl ⟨xs, ex_t e h1, ?_⟩)
  cases h2 <;> rfl
theorem tru_lst {l : List PyData} : TruD X (Ls l) (!l.isEmpty) := fun G v h H e => by
  obtain ⟨a, xs, rfl, h1, h2⟩ := ds_lst h
  refine .inl ⟨xs, ex_l e h1, ?_⟩
  cases h2 <;> rfl

/-! ### the same as values -/
theorem ee_one {op} {d : SD} (h : EE X a ds d) : EE X (.BoolOp op [a] pos) ds d := fun m σ G H E w Q q => oE (pe_one (pE a)) (h m σ G H E w Q q)
theorem ee_and {k l : Bool} (h : EE X a ds (B k)) (h2 : k = true → EE X (.BoolOp .And (b :: rest) pos) ds (B l)) : EE X (.BoolOp .And (a :: b :: rest) pos) ds (B (k && l)) := fun m σ G H E w Q q => oE (pe_and (pE a) (pE _)) (by
  refine h m σ G H E w _ fun v d m1 G1 H1 g1 r1 ⟨e1, e2⟩ => ?_
  subst e1 e2
  refine ⟨k, ds_bl r1, ?_⟩
  cases k with
  | true =>
    rw [if_pos rfl]
    exact h2 rfl m1 σ G1 H1 (E.mono g1.g) g1.wd _ fun l' d' m2 G2 H2 g2 r2 ⟨e1, e2⟩ => q _ _ _ _ _ (g1.trans g2) r2 ⟨by rw [e1]; rfl, e2⟩
  | false =>
    rw [if_neg Bool.false_ne_true]
    exact q _ _ _ _ _ g1 (.py (.bl false)) ⟨rfl, rfl⟩)
theorem ee_or {k l : Bool} (h : EE X a ds (B k)) (h2 : k = false → EE X (.BoolOp .Or (b :: rest) pos) ds (B l)) : EE X (.BoolOp .Or (a :: b :: rest) pos) ds (B (k || l)) := fun m σ G H E w Q q => oE (pe_or (pE a) (pE _)) (by
  refine h m σ G H E w _ fun v d m1 G1 H1 g1 r1 ⟨e1, e2⟩ => ?_
  subst e1 e2
  refine ⟨k, ds_bl r1, ?_⟩
  cases k with
  | false =>
    rw [if_neg Bool.false_ne_true]
    exact h2 rfl m1 σ G1 H1 (E.mono g1.g) g1.wd _ fun l' d' m2 G2 H2 g2 r2 ⟨e1, e2⟩ => q _ _ _ _ _ (g1.trans g2) r2 ⟨by rw [e1]; rfl, e2⟩
  | true =>
    rw [if_pos rfl]
    exact q _ _ _ _ _ g1 (.py (.bl true)) ⟨rfl, rfl⟩)
theorem ee_not {k : Bool} (h : EE X a ds (B k)) : EE X (.UnaryOp .Not a pos) ds (B (!k)) := fun m σ G H E w Q q => oE (pe_not (pE a)) (h m σ G H E w _ fun v d m1 G1 H1 g1 r1 ⟨e1, e2⟩ => by
  subst e1
  exact ⟨k, ds_bl r1, q _ _ _ _ _ g1 (.py (.bl _)) ⟨rfl, e2⟩⟩)
/-- a or b, by truth -/
theorem ee_orT {d d2 : SD} {k : Bool} (h : EE X a ds d) (t : TruD X d k) (h2 : k = false → EE X (.BoolOp .Or (b :: rest) pos) ds d2) : EE X (.BoolOp .Or (a :: b :: rest) pos) ds (if k = true then d else d2) := fun m σ G H E w Q q => oE (pe_orT (pE a) (pE _)) (by
  refine h m σ G H E w _ fun v d m1 G1 H1 g1 r1 ⟨e1, e2⟩ => ?_
  subst e1 e2
  refine ⟨k, t _ _ r1 _ g1.wd.w, ?_⟩
  cases k with
  | false =>
    rw [if_neg Bool.false_ne_true]
    exact h2 rfl m1 σ G1 H1 (E.mono g1.g) g1.wd _ fun l' d' m2 G2 H2 g2 r2 ⟨e1, e2⟩ => q _ _ _ _ _ (g1.trans g2) r2 ⟨by rw [e1]; rfl, e2⟩
  | true =>
    rw [if_pos rfl]
    exact q _ _ _ _ _ g1 r1 ⟨rfl, rfl⟩)
/-! ### a if t else b -/
theorem we_if {P : SD → MS → Prop} (h : WT X c ds m fun k m1 => if k = true then WE X a ds m1 P else WE X b ds m1 P) : WE X (.IfExp c a b pos) ds m P := fun σ G H E w Q q => oE (pe_ifExp (pT c) (pE a) (pE b)) (by
  refine h σ G H E w _ fun k m1 G1 H1 g1 p => ?_
  cases k with
  | true =>
    rw [if_pos rfl] at p ⊢
    exact p σ G1 H1 (E.mono g1.g) g1.wd _ fun v d m2 G2 H2 g2 => q v d m2 G2 H2 (g1.trans g2)
  | false =>
    rw [if_neg Bool.false_ne_true] at p ⊢
    exact p σ G1 H1 (E.mono g1.g) g1.wd _ fun v d m2 G2 H2 g2 => q v d m2 G2 H2 (g1.trans g2))
theorem ee_if {k : Bool} {d : SD} (h : ET X c ds k) (h1 : k = true → EE X a ds d) (h2 : k = false → EE X b ds d) : EE X (.IfExp c a b pos) ds d := fun m => we_if (h.to (by
  cases k with
  | true => rw [if_pos rfl]; exact h1 rfl m
  | false => rw [if_neg Bool.false_ne_true]; exact h2 rfl m))
theorem ee_ifc {k : Bool} {d d2 : SD} (h : ET X c ds k) (h1 : k = true → EE X a ds d) (h2 : k = false → EE X b ds d2) : EE X (.IfExp c a b pos) ds (if k = true then d else d2) := ee_if h (fun e => by rw [if_pos e]; exact h1 e) (fun e => by rw [e, if_neg Bool.false_ne_true]; exact h2 e)
/-- both of plain data -/
theorem ee_ifp {k : Bool} {d d2 : PyData} (h : ET X c ds k) (h1 : k = true → EE X a ds (.py d)) (h2 : k = false → EE X b ds (.py d2)) : EE X (.IfExp c a b pos) ds (.py (if k = true then d else d2)) := ee_if h (fun e => by rw [if_pos e]; exact h1 e) (fun e => by rw [e, if_neg Bool.false_ne_true]; exact h2 e)

/-! ### arguments, displays -/
theorem wa_nil {P : List SD → MS → Prop} (p : P [] m) : WA X [] ds m P := fun σ G H E w Q q => oA pa_nil (q _ _ _ _ _ (.refl w) .nil p)
theorem wa_cons {P : List SD → MS → Prop} (h : WE X e ds m fun d m1 => WA X es ds m1 fun xs m2 => P (d :: xs) m2) (hs : starEach (e :: es) X.env = (false, eval e X.env) :: starEach es X.env := by rfl) : WA X (e :: es) ds m P := fun σ G H E w Q q => oA (pa_cons (pE e) (pA es) hs) (by
  refine h σ G H E w _ fun v d m1 G1 H1 g1 r1 p => ?_
  exact p σ G1 H1 (E.mono g1.g) g1.wd _ fun vs xs m2 G2 H2 g2 r2 p => q _ _ _ _ _ (g1.trans g2) (.cons (ds_mono g2.g r1) r2) p)
theorem ea_nil : EA X [] ds [] := fun m => wa_nil ⟨rfl, rfl⟩
theorem ea_cons {d : SD} {xs : List SD} (h : EE X e ds d) (h2 : EA X es ds xs) (hs : starEach (e :: es) X.env = (false, eval e X.env) :: starEach es X.env := by rfl) : EA X (e :: es) ds (d :: xs) := fun m => wa_cons (h.to (h2.to ⟨rfl, rfl⟩)) hs
/-- plain data -/
def EAp (X : Cx) (es : List Expr) (ds : DE) (l : List PyData) : Prop := EA X es ds (l.map .py)
theorem eap_nil : EAp X [] ds [] := ea_nil
theorem eap_cons {d : PyData} {l : List PyData} (h : EE X e ds (.py d)) (h2 : EAp X es ds l) (hs : starEach (e :: es) X.env = (false, eval e X.env) :: starEach es X.env := by rfl) : EAp X (e :: es) ds (d :: l) := ea_cons h h2 hs
theorem dss_py {K : PySem.W.Frag} {G : Hp} : ∀ {l : List PyData} {vs : List V}, DSs K G vs (l.map .py) → DpAll K G vs l
  | [], _, h => by cases h; exact .nil
  | d :: l, _, h => by
    cases h with
    | cons h1 h2 => cases h1 with
      | py h1 => exact .cons h1 (dss_py h2)
theorem py_dss {K : PySem.W.Frag} {G : Hp} : ∀ {l : List PyData} {vs : List V}, DpAll K G vs l → DSs K G vs (l.map .py)
  | [], _, h => by cases h; exact .nil
  | d :: l, _, h => by
    cases h with
    | cons h1 h2 => exact .cons (.py h1) (py_dss h2)
/-- a starred tuple or list amid -/
theorem ea_star {l : List PyData} {xs : List SD} {p : Pos} (h : EE X e ds (Tp l)) (h2 : EA X es ds xs) (hs : starEach (.Starred e p :: es) X.env = (true, eval e X.env) :: starEach es X.env := by rfl) : EA X (.Starred e p :: es) ds (l.map .py ++ xs) := fun m σ G H E w Q q => oA (StX.pa_star (pE e) (pA es) hs) (by
  refine h m σ G H E w _ fun v d m1 G1 H1 g1 r1 ⟨e1, e2⟩ => ?_
  subst e1 e2
  obtain ⟨a, vs, rfl, h1, h3⟩ := ds_tup r1
  refine ⟨a, vs, rfl, .inl (ex_t g1.wd.w h1), ?_⟩
  refine h2 m1 σ G1 H1 (E.mono g1.g) g1.wd _ fun us ys m2 G2 H2 g2 r2 ⟨e1, e2⟩ => ?_
  subst e1 e2
  refine q _ _ _ _ _ (g1.trans g2) ?_ ⟨rfl, rfl⟩
  have app : ∀ {l : List PyData} {vs : List V}, DpAll X.K G2 vs l → DSs X.K G2 (vs ++ us) (l.map SD.py ++ ys) := by
    intro l
    induction l with
    | nil => intro vs h; cases h; exact r2
    | cons d l ih => intro vs h; cases h with | cons a b => exact .cons (.py a) (ih b)
  exact app (dpa_mono g2.g h3))
theorem we_tup {P : SD → MS → Prop} {k} (h : WA X es ds m fun xs m1 => ∃ l, xs = l.map .py ∧ l.length ≤ 1000000 ∧ P (Tp l) m1) : WE X (.Tuple es k pos) ds m P := fun σ G H E w Q q => oE (pe_tup (pA es)) (by
  refine h σ G H E w _ fun vs xs m1 G1 H1 g1 r1 ⟨l, e1, hl, p⟩ => ?_
  subst e1
  have r2 := dss_py r1
  refine ⟨by rw [dpa_length r2]; exact Nat.le_trans hl (by decide), fun a ha => ?_⟩
  have g2 := Gr.new (o := .tup vs) g1.wd ha
  exact q _ _ _ _ _ (g1.trans g2) (.py (.tup (SqT.of upd_same) (dpa_mono g2.g r2))) p)
theorem ee_tup {l : List PyData} {k} (h : EAp X es ds l) (hl : l.length ≤ 1000000 := by first | decide | simp) : EE X (.Tuple es k pos) ds (Tp l) := fun m => we_tup ((h m).mono fun xs m1 ⟨e1, e2⟩ => ⟨l, e1, hl, rfl, e2⟩)
theorem ee_tupX {l : List PyData} {xs : List SD} {k} (h : EA X es ds xs) (e : xs = l.map .py) (hl : l.length ≤ 1000000 := by first | decide | simp) : EE X (.Tuple es k pos) ds (Tp l) := ee_tup (by rw [e] at h; exact h) hl
/-- a list of data -/
theorem we_lst {P : SD → MS → Prop} (h : WA X es ds m fun xs m1 => ∃ l, xs = l.map .py ∧ l.length ≤ 1000000 ∧ P (Ls l) m1) : WE X (.List es pos) ds m P := fun σ G H E w Q q => oE (pe_lst (pA es)) (by
  refine h σ G H E w _ fun vs xs m1 G1 H1 g1 r1 ⟨l, e1, hl, p⟩ => ?_
  subst e1
  have r2 := dss_py r1
  refine ⟨by rw [dpa_length r2]; exact Nat.le_trans hl (by decide), fun a ha => ?_⟩
  have g2 := Gr.new (o := .lst vs) g1.wd ha
  exact q _ _ _ _ _ (g1.trans g2) (.py (.lst (SqL.of upd_same) (dpa_mono g2.g r2))) p)
theorem ee_lst {l : List PyData} (h : EAp X es ds l) (hl : l.length ≤ 1000000 := by first | decide | simp) : EE X (.List es pos) ds (Ls l) := fun m => we_lst ((h m).mono fun xs m1 ⟨e1, e2⟩ => ⟨l, e1, hl, rfl, e2⟩)
/-- a list that is owned from here on -/
theorem we_lstO {P : SD → MS → Prop} (h : WA X es ds m fun xs m1 => ∃ l, xs = l.map .py ∧ l.length ≤ 1000000 ∧ ∀ p, P (.raw (.ref p)) ((p, .dl l) :: m1)) : WE X (.List es pos) ds m P := fun σ G H E w Q q => oE (pe_lst (pA es)) (by
  refine h σ G H E w _ fun vs xs m1 G1 H1 g1 r1 ⟨l, e1, hl, p⟩ => ?_
  subst e1
  have r2 := dss_py r1
  refine ⟨by rw [dpa_length r2]; exact Nat.le_trans hl (by decide), fun a ha => ?_⟩
  have g2 := Gr.made (o := .lst vs) (v := .dl l) g1.wd ha ⟨vs, rfl, r2⟩
  exact q _ _ _ _ _ (g1.trans g2) (.raw _) (p a))

/-! ### subscripts, slices -/
theorem we_sub {P : SD → MS → Prop} (h : WE X a ds m fun x m1 => WE X b ds m1 fun y m2 => ∃ z, SubD X m2 x y z ∧ P z m2) (hs : PlainIx b := by exact fun _ _ => rfl) : WE X (.Subscript a b pos) ds m P := fun σ G H E w Q q => by
  intro pins s I
  refine Subscript_ (binT (pE a) (pE b) (R := fun v u H2 => ∃ r, IxR X r ∧ r v u H2 Q) I ?_ fun v u s2 x y H2 I2 rx ry ⟨r, ho, hr⟩ => ho a b pins s2 σ H2 x y v u Q I2 rx ry hr (hs _ _))
  refine h σ G H E w _ fun v x m1 G1 H1 g1 r1 p1 => p1 σ G1 H1 (E.mono g1.g) g1.wd _ fun u y m2 G2 H2 g2 r2 ⟨z, ⟨r, ho, hr⟩, p⟩ => ⟨r, ho, ?_⟩
  exact hr G2 H2 v u g2.wd (ds_mono g2.g r1) r2 Q fun w' G3 H3 g3 r3 => q w' z m2 G3 H3 ((g1.trans g2).trans g3) r3 p
theorem ee_sub {x y z : SD} (ha : EE X a ds x) (hb : EE X b ds y) (hr : ∀ m, SubD X m x y z) (hs : PlainIx b := by exact fun _ _ => rfl) : EE X (.Subscript a b pos) ds z := fun m => we_sub (ha.to (hb.to ⟨z, hr m, rfl, rfl⟩)) hs
def EO (X : Cx) (e : Option Expr) (ds : DE) (o : Option Int) : Prop := ∀ m, WO X e ds m fun o' m' => o' = o ∧ m' = m
theorem eo_none : EO X none ds none := fun m σ G H E w Q q pins s I => po_none.run pins s σ H Q I (q _ _ _ _ (.refl w) ⟨rfl, rfl⟩)
theorem eo_some {i : Int} (h : EE X e ds (PySem.PyData.int i |> SD.py)) : EO X (some e) ds (some i) := fun m σ G H E w Q q pins s J => (po_some (pE e)).run pins s σ H Q J (h m σ G H E w _ fun v d m1 G1 H1 g1 r1 ⟨e1, e2⟩ => by
  subst e1
  exact ⟨i, ds_int r1, q _ _ _ _ g1 ⟨rfl, e2⟩⟩)
def SlD (X : Cx) (m : MS) (x : SD) (lo hi : Option Int) (z : SD) : Prop := ∃ r, SlR X r ∧ ∀ G H v, Wd X.K m G H → DS X.K G v x → ∀ Q : VK, (∀ w G' H', Gr X.K m m G H G' H' → DS X.K G' w z → Q w H') → r v lo hi H Q
theorem we_slice {lo hi : Option Expr} {l u : Option Int} {P : SD → MS → Prop} {p2 : Pos} (h : WE X e ds m fun x m1 => ∃ z, SlD X m1 x l u z ∧ P z m1) (h1 : EO X lo ds l) (h2 : EO X hi ds u) : WE X (.Subscript e (.Slice lo hi none p2) pos) ds m P := fun σ G H E w Q q => by
  have p : PE X (.Subscript e (.Slice lo hi none p2) pos) (tSl (fun v l u H Q => ∃ r, SlR X r ∧ r v l u H Q) (wE X e) (wP X lo) (wP X hi)) :=
      pe_slice (fun pins s σ H x v vl vu lo hi sl Q I rx hs pl pu ⟨r, hr, q⟩ => hr pins s σ H x v vl vu lo hi sl Q I rx hs pl pu q) (pE e) (pO lo) (pO hi)
  refine oE p ?_
  refine h σ G H E w _ fun v x m1 G1 H1 g1 r1 ⟨z, ⟨r, hr, hz⟩, p⟩ => ?_
  refine h1 m1 σ G1 H1 (E.mono g1.g) g1.wd _ fun l' m2 G2 H2 g2 ⟨e1, e2⟩ => ?_
  subst e1 e2
  refine h2 m2 σ G2 H2 (E.mono (g1.trans g2).g) g2.wd _ fun u' m3 G3 H3 g3 ⟨e1, e2⟩ => ?_
  subst e1 e2
  exact ⟨r, hr, hz G3 H3 v g3.wd (ds_mono (g2.trans g3).g r1) Q fun w' G4 H4 g4 r4 => q w' z _ G4 H4 (((g1.trans g2).trans g3).trans g4) r4 p⟩
theorem ee_slice {lo hi : Option Expr} {l u : Option Int} {x z : SD} {p2 : Pos} (h : EE X e ds x) (h1 : EO X lo ds l) (h2 : EO X hi ds u) (hz : ∀ m, SlD X m x l u z) : EE X (.Subscript e (.Slice lo hi none p2) pos) ds z := fun m => we_slice (h.to ⟨z, hz m, rfl, rfl⟩) h1 h2

/-! ### calls of what is built in -/
def CaD (X : Cx) (f : Value) (m : MS) (xs : List SD) (z : SD) : Prop := ∃ r, CallR X f r ∧ ∀ G H vs, Wd X.K m G H → DSs X.K G vs xs → ∀ Q : VK, (∀ w G' H', Gr X.K m m G H G' H' → DS X.K G' w z → Q w H') → r vs H Q
theorem we_callB {x : Str} {id : String} {p : Pos} {P : SD → MS → Prop} (h : WA X (e :: es) ds m fun xs m1 => ∃ z, CaD X (.builtin id) m1 xs z ∧ P z m1) (hm : X.mg x = none) (hv : bootBuiltins x = some (.builtin id)) (hg : Gl X x := by rfl) (hn : x ≠ "__name__" := by decide) (hdb : (x == ("__debug__" : Str)) = false := by decide)
    (he : starEach (e :: es) X.env = (false, eval e X.env) :: starEach es X.env := by rfl) (hpl : (backTo pos (starEach es X.env)).any (·.1) = false := by rfl) : WE X (.Call (.Name x p) (e :: es) [] pos) ds m P := fun σ G H E w Q q => by
  have c : CallR X (.builtin id) (fun vs H Q => ∃ r, CallR X (.builtin id) r ∧ r vs H Q) := fun pins s σ H xs us Q I r ⟨r', h1, h2⟩ => h1 pins s σ H xs us Q I r h2
  refine oE (pe_callB c hg hm hv (pA (e :: es)) hn hdb he hpl) (h σ G H E w _ fun vs xs m1 G1 H1 g1 r1 ⟨z, ⟨r, hr, hz⟩, p⟩ => ⟨r, hr, ?_⟩)
  exact hz G1 H1 vs g1.wd r1 Q fun w' G4 H4 g4 r4 => q w' z _ G4 H4 (g1.trans g4) r4 p
theorem we_callTy {x : Str} {id : String} {p : Pos} {P : SD → MS → Prop} (h : WA X (e :: es) ds m fun xs m1 => ∃ z, CaD X (.type id) m1 xs z ∧ P z m1) (hm : X.mg x = none) (hv : bootBuiltins x = some (.type id)) (hg : Gl X x := by rfl) (hn : x ≠ "__name__" := by decide) (hdb : (x == ("__debug__" : Str)) = false := by decide)
    (he : starEach (e :: es) X.env = (false, eval e X.env) :: starEach es X.env := by rfl) (hpl : (backTo pos (starEach es X.env)).any (·.1) = false := by rfl) : WE X (.Call (.Name x p) (e :: es) [] pos) ds m P := fun σ G H E w Q q => by
  have c : CallR X (.type id) (fun vs H Q => ∃ r, CallR X (.type id) r ∧ r vs H Q) := fun pins s σ H xs us Q I r ⟨r', h1, h2⟩ => h1 pins s σ H xs us Q I r h2
  refine oE (pe_callTy c hg hm hv (pA (e :: es)) hn hdb he hpl) (h σ G H E w _ fun vs xs m1 G1 H1 g1 r1 ⟨z, ⟨r, hr, hz⟩, p⟩ => ⟨r, hr, ?_⟩)
  exact hz G1 H1 vs g1.wd r1 Q fun w' G4 H4 g4 r4 => q w' z _ G4 H4 (g1.trans g4) r4 p
theorem ee_callB {x : Str} {id : String} {p : Pos} {xs : List SD} {z : SD} (h : EA X (e :: es) ds xs) (hc : ∀ m, CaD X (.builtin id) m xs z) (hm : X.mg x = none) (hv : bootBuiltins x = some (.builtin id)) (hg : Gl X x := by rfl) (hn : x ≠ "__name__" := by decide) (hdb : (x == ("__debug__" : Str)) = false := by decide)
    (he : starEach (e :: es) X.env = (false, eval e X.env) :: starEach es X.env := by rfl) (hpl : (backTo pos (starEach es X.env)).any (·.1) = false := by rfl) : EE X (.Call (.Name x p) (e :: es) [] pos) ds z := fun m => we_callB (h.to ⟨z, hc m, rfl, rfl⟩) hm hv hg hn hdb he hpl
theorem ee_callTy {x : Str} {id : String} {p : Pos} {xs : List SD} {z : SD} (h : EA X (e :: es) ds xs) (hc : ∀ m, CaD X (.type id) m xs z) (hm : X.mg x = none) (hv : bootBuiltins x = some (.type id)) (hg : Gl X x := by rfl) (hn : x ≠ "__name__" := by decide) (hdb : (x == ("__debug__" : Str)) = false := by decide)
    (he : starEach (e :: es) X.env = (false, eval e X.env) :: starEach es X.env := by rfl) (hpl : (backTo pos (starEach es X.env)).any (·.1) = false := by rfl) : EE X (.Call (.Name x p) (e :: es) [] pos) ds z := fun m => we_callTy (h.to ⟨z, hc m, rfl, rfl⟩) hm hv hg hn hdb he hpl
/-- a method of a built-in type -/
def MtD (X : Cx) (T id : String) (m : MS) (x : SD) (xs : List SD) (z : SD) : Prop := (∀ G H v, Wd X.K m G H → DS X.K G v x → tyV X.K T v H) ∧ ∃ r, MtR X id r ∧ ∀ G H v vs, Wd X.K m G H → DS X.K G v x → DSs X.K G vs xs → ∀ Q : VK, (∀ w G' H', Gr X.K m m G H G' H' → DS X.K G' w z → Q w H') → r v vs H Q
theorem we_meth {o : Expr} {name : Str} {apos cpos : Pos} {T id : String} {x : SD} {P : SD → MS → Prop} (pa : PlainAttrs T) (slot : Slot T name id) (hty : typeOf (.builtin id) = pure (.type "method_descriptor")) (ho : EE X o ds x) (ht : ∀ m G H v, Wd X.K m G H → DS X.K G v x → tyV X.K T v H)
    (ha : WA X (e :: es) ds m fun xs m1 => ∃ z, MtD X T id m1 x xs z ∧ P z m1)
    (hbase : attributeBase o name X.env (eval o X.env) = eval o X.env := by rfl)
    (hfew : ((backTo cpos (starEach (e :: es) X.env)).all (fun x => !x.1) && (backToKw cpos (keywordEach [] X.env)).all (fun x => x.1.isSome)
      && decide ((e :: es).length + ([] : List Keyword).length + (if ([] : List Keyword).isEmpty then 0 else 1) < 30)) = true := by rfl)
    (hline : (apos.endLine == cpos.line) = true := by rfl) (hs : starEach (e :: es) X.env = (false, eval e X.env) :: starEach es X.env := by rfl) (hplain : (backTo cpos (starEach es X.env)).any (·.1) = false := by rfl) : WE X (.Call (.Attribute o name apos) (e :: es) [] cpos) ds m P := fun σ G H E w Q q => by
  have c : MtR X id (fun v vs H Q => ∃ r, MtR X id r ∧ r v vs H Q) := fun pins s σ H x xs v us Q I rx rs ⟨r, h1, h2⟩ => h1 pins s σ H x xs v us Q I rx rs h2
  refine oE (pe_bm pa slot hty c (pE o) (pA (e :: es)) hbase hfew hline hs hplain) (ho m σ G H E w _ fun v d m1 G1 H1 g1 r1 ⟨e1, e2⟩ => ?_)
  subst e1 e2
  refine ⟨ht _ _ _ _ g1.wd r1, ?_⟩
  refine ha σ G1 H1 (E.mono g1.g) g1.wd _ fun vs xs m2 G2 H2 g2 r2 ⟨z, ⟨ht, r, hr, hz⟩, p⟩ => ⟨r, hr, ?_⟩
  exact hz G2 H2 v vs g2.wd (ds_mono g2.g r1) r2 Q fun w' G4 H4 g4 r4 => q w' z _ G4 H4 ((g1.trans g2).trans g4) r4 p
theorem ee_meth {o : Expr} {name : Str} {apos cpos : Pos} {T id : String} {x : SD} {xs : List SD} {z : SD} (pa : PlainAttrs T) (slot : Slot T name id) (hty : typeOf (.builtin id) = pure (.type "method_descriptor")) (ho : EE X o ds x) (ha : EA X (e :: es) ds xs) (hz : ∀ m, MtD X T id m x xs z)
    (hbase : attributeBase o name X.env (eval o X.env) = eval o X.env := by rfl)
    (hfew : ((backTo cpos (starEach (e :: es) X.env)).all (fun x => !x.1) && (backToKw cpos (keywordEach [] X.env)).all (fun x => x.1.isSome)
      && decide ((e :: es).length + ([] : List Keyword).length + (if ([] : List Keyword).isEmpty then 0 else 1) < 30)) = true := by rfl)
    (hline : (apos.endLine == cpos.line) = true := by rfl) (hs : starEach (e :: es) X.env = (false, eval e X.env) :: starEach es X.env := by rfl) (hplain : (backTo cpos (starEach es X.env)).any (·.1) = false := by rfl) : EE X (.Call (.Attribute o name apos) (e :: es) [] cpos) ds z := fun m =>
  we_meth pa slot hty ho (fun m => (hz m).1) (ha.to ⟨z, hz m, rfl, rfl⟩) hbase hfew hline hs hplain
theorem ee_meth0 {o : Expr} {name : Str} {apos cpos : Pos} {T id : String} {x : SD} {z : SD} (pa : PlainAttrs T) (slot : Slot T name id) (hty : typeOf (.builtin id) = pure (.type "method_descriptor")) (ho : EE X o ds x) (hz : ∀ m, MtD X T id m x [] z)
    (hbase : attributeBase o name X.env (eval o X.env) = eval o X.env := by rfl) (hline : (apos.endLine == cpos.line) = true := by rfl) : EE X (.Call (.Attribute o name apos) [] [] cpos) ds z := fun m σ G H E w Q q => by
  have c : MtR X id (fun v vs H Q => ∃ r, MtR X id r ∧ r v vs H Q) := fun pins s σ H x xs v us Q I rx rs ⟨r, h1, h2⟩ => h1 pins s σ H x xs v us Q I rx rs h2
  refine oE (pe_bm0 pa slot hty c (pE o) hbase hline) (ho m σ G H E w _ fun v d m1 G1 H1 g1 r1 ⟨e1, e2⟩ => ?_)
  subst e1 e2
  obtain ⟨ht, r, hr, hz'⟩ := hz m1
  refine ⟨ht _ _ _ g1.wd r1, r, hr, ?_⟩
  exact hz' G1 H1 v [] g1.wd r1 .nil Q fun w' G4 H4 g4 r4 => q w' z _ G4 H4 (g1.trans g4) r4 ⟨rfl, rfl⟩

/-! ### calls of the text's own defs -/
abbrev FT := List SD → MS → (SD → MS → Prop) → Prop
def SpD (K : PySem.W.Frag) (F : FT) : Sp := fun vs H Q _ => ∃ G m ds P, Wd K m G H ∧ DSs K G vs ds ∧ F ds m P ∧ ∀ v d m' G' H', Gr K m m' G H G' H' → DS K G' v d → P d m' → Q v H'
/-- a def that is a function of plain data -/
def pureF (R : List SD → SD → Prop) : FT := fun ds m P => ∃ d, R ds d ∧ P d m
theorem we_call {k : Nat} {f : Addr} {fd : FuncData} {ps : List Str} {F : FT} {x : Str} {p : Pos} {fr : MS} {P : SD → MS → Prop} (FO : FnOk X.prog X.w X.K X.mg X.base CX0 k f fd ps (SpD X.K F)) (hr : Room k X.A) (hm : X.mg x = some (.ref f)) (hk : PySem.W.keepIn X.K (.ref f) = true) (hb : Binds X.K fd ps [])
    (h : WA X (e :: es) ds m fun xs m1 => ∃ fr mc, m1 = fr ++ mc ∧ F xs mc fun d m2 => P d (fr ++ m2)) (hg : Gl X x := by rfl) (hdb : (x == ("__debug__" : Str)) = false := by decide)
    (he : starEach (e :: es) X.env = (false, eval e X.env) :: starEach es X.env := by rfl) (hpl : (backTo pos (starEach es X.env)).any (·.1) = false := by rfl) : WE X (.Call (.Name x p) (e :: es) [] pos) ds m P := fun σ G H E w Q q => by
  refine oE (pe_call FO hr hg hm hk hb .nil pass0 (pA (e :: es)) hdb he hpl) (h σ G H E w _ fun vs xs m1 G1 H1 g1 r1 ⟨fr, mc, e1, hF⟩ => ?_)
  subst e1
  show SpD X.K F (vs ++ []) H1 Q E0
  rw [List.append_nil]
  exact ⟨G1, mc, xs, _, g1.wd.sub, r1, hF, fun v d m' G' H' g2 r2 p => q v d _ G' H' (g1.trans (Gr.frame g1.wd g2)) r2 p⟩
theorem ee_call {k : Nat} {f : Addr} {fd : FuncData} {ps : List Str} {R : List SD → SD → Prop} {x : Str} {p : Pos} {xs : List SD} {z : SD} (FO : FnOk X.prog X.w X.K X.mg X.base CX0 k f fd ps (SpD X.K (pureF R))) (hr : Room k X.A) (hm : X.mg x = some (.ref f)) (hk : PySem.W.keepIn X.K (.ref f) = true) (hb : Binds X.K fd ps [])
    (h : EA X (e :: es) ds xs) (hz : R xs z) (hg : Gl X x := by rfl) (hdb : (x == ("__debug__" : Str)) = false := by decide)
    (he : starEach (e :: es) X.env = (false, eval e X.env) :: starEach es X.env := by rfl) (hpl : (backTo pos (starEach es X.env)).any (·.1) = false := by rfl) : EE X (.Call (.Name x p) (e :: es) [] pos) ds z := fun m =>
  we_call (fr := []) FO hr hm hk hb (h.to ⟨m, [], (List.append_nil m).symm, z, hz, rfl, List.append_nil m⟩) hg hdb he hpl
end
end W9
namespace W9
open PySem PySem.Spec PyProof.Rows L2
/-! ### slots -/
section
variable {K : PySem.W.Frag} {G G' : Hp} {σ : L2.St} {ds : DE}
theorem EnvD.unset (E : EnvD K G σ ds) (i : Nat) : EnvD K G (σ.set i none) (ds.set i none) := by
  refine ⟨by rw [List.length_set, List.length_set]; exact E.1, fun j e he => ?_⟩
  by_cases hj : i = j
  · subst hj
    by_cases hl : i < ds.length
    · rw [List.getElem?_set_self hl] at he; cases he
    · rw [List.getElem?_eq_none (by rw [List.length_set]; omega)] at he; cases he
  · rw [List.getElem?_set_ne hj] at he ⊢
    exact E.2 j e he
theorem EnvD.retype (E : EnvD K G σ ds) {i : Nat} {v : V} {d : SD} (hv : σ[i]? = some (some v)) (h : DS K G v d) : EnvD K G σ (ds.set i (some d)) := by
  have z := E.set (i := i) h
  have e : σ.set i (some v) = σ := by
    refine List.ext_getElem? fun j => ?_
    by_cases hj : i = j
    · subst hj
      rw [List.getElem?_set_self (List.getElem?_eq_some_iff.mp hv).1, hv]
    · rw [List.getElem?_set_ne hj]
  rw [e] at z
  exact z
def wipeD (ds : DE) : List Nat → DE
  | [] => ds
  | v :: vs => (wipeD ds vs).set v none
theorem EnvD.wipe (E : EnvD K G σ ds) : ∀ vs : List Nat, EnvD K G (L2.wipe σ vs) (wipeD ds vs)
  | [] => E
  | v :: vs => (EnvD.wipe E vs).unset v
end
theorem wipe_get (σ : L2.St) : ∀ (vs : List Nat) (i : Nat), i ∉ vs → (L2.wipe σ vs)[i]? = σ[i]?
  | [], i, _ => rfl
  | v :: vs, i, h => by
    have h1 : v ≠ i := fun e => h (by rw [e]; exact List.mem_cons_self)
    show ((L2.wipe σ vs).set v none)[i]? = _
    rw [List.getElem?_set_ne h1]
    exact wipe_get σ vs i fun z => h (List.mem_cons_of_mem _ z)
theorem wipe_in (σ : L2.St) : ∀ (vs : List Nat) (i : Nat), i ∈ vs → (L2.wipe σ vs)[i]? = if i < σ.length then some none else none
  | v :: vs, i, h => by
    show ((L2.wipe σ vs).set v none)[i]? = _
    by_cases e : v = i
    · subst e
      by_cases hl : v < σ.length
      · rw [if_pos hl, List.getElem?_set_self (by rw [L2.wipe_length]; exact hl)]
      · rw [if_neg hl, List.getElem?_eq_none (by rw [List.length_set, L2.wipe_length]; omega)]
    · rw [List.getElem?_set_ne e]
      rcases List.mem_cons.mp h with z | z
      · exact absurd z.symm e
      · exact wipe_in σ vs i z
theorem wipe_same {σ σ2 : L2.St} {vs : List Nat} (hl : σ2.length = σ.length) (h : ∀ i, i ∉ vs → σ2[i]? = (L2.wipe σ vs)[i]?) : L2.wipe σ2 vs = L2.wipe σ vs := by
  refine List.ext_getElem? fun i => ?_
  by_cases hi : i ∈ vs
  · rw [wipe_in _ _ _ hi, wipe_in _ _ _ hi, hl]
  · rw [wipe_get _ _ _ hi, h i hi]

section
variable {X : Cx} {ds : DE} {m : MS} {e a b c : Expr} {es rest : List Expr} {pos : Pos}
/-! ### targets -/
theorem wg_name {i : Nat} {x : Str} {d : SD} {P : DE → MS → Prop} (p : P (ds.set i (some d)) m) (hN : X.N.Nodup) (hi : X.N[i]? = some x := by rfl) (hx : Loc X.env.scope x := by first | exact Or.inl rfl | exact Or.inr rfl)
    (hf : X.fn x = true ∨ X.env.scope.names.lookup x = some .local := by first | exact .inl rfl | exact .inr rfl | assumption) : WG X (.Name x pos) [i] d ds m P := fun σ G H v E w r Q q =>
  oG (pg_name hN hi hx hf) (q _ _ _ _ _ (.refl w) (E.set r) ⟨fun j hj => by rw [List.getElem?_set_ne (fun z => hj (by rw [z]; exact List.mem_cons_self))], List.length_set ..⟩ p)
theorem wgs_nil {P : DE → MS → Prop} (p : P ds m) : WGs X [] [] [] ds m P := fun σ G H vs E w r Q q => oG' (by cases r; exact ⟨rfl, q _ _ _ _ _ (.refl w) E ⟨fun _ _ => rfl, rfl⟩ p⟩)
  where oG' {vs : List V} {σ : L2.St} {H : Hp} {Q : L2.St → Hp → Prop} (h : gNil vs σ H Q) : wGs X [] vs σ H Q := fun pins s u I r => pgs_nil.run pins s σ H vs u Q I r h
theorem wgs_cons {tg : Expr} {tgs : List Expr} {js ks : List Nat} {d : SD} {xs : List SD} {P : DE → MS → Prop} (h : WG X tg js d ds m fun ds1 m1 => WGs X tgs ks xs ds1 m1 P)
    (hs : (assignEach (tg :: tgs) X.env).map (·.2) = assign tg X.env :: (assignEach tgs X.env).map (·.2) := by rfl) : WGs X (tg :: tgs) (js ++ ks) (d :: xs) ds m P := fun σ G H vs E w r Q q => by
  intro pins s us I ru
  cases r with
  | cons r1 r2 =>
    refine (pgs_cons (pG tg) (pGs tgs) hs).run pins s σ H _ us Q I ru ⟨_, _, rfl, ?_⟩
    refine h σ G H _ E w r1 _ fun σ1 ds1 m1 G1 H1 g1 E1 k1 p1 => ?_
    exact p1 σ1 G1 H1 _ E1 g1.wd (dss_mono g1.g r2) Q fun σ2 ds2 m2 G2 H2 g2 E2 k2 p2 => q σ2 ds2 m2 G2 H2 (g1.trans g2) E2 ⟨fun i hi => (k2.1 i fun z => hi (List.mem_append_right _ z)).trans (k1.1 i fun z => hi (List.mem_append_left _ z)), k2.2.trans k1.2⟩ p2
theorem wg_tup {tgs : List Expr} {js : List Nat} {l : List PyData} {k : Nat} {P : DE → MS → Prop} (h : WGs X tgs js (l.map .py) ds m P) (hc : X.calm = true := by rfl)
    (hn : (assignEach tgs X.env).length = l.length := by rfl) (hst : (assignEach tgs X.env).findIdx? (·.1) = none := by rfl) : WG X (.Tuple tgs k pos) js (Tp l) ds m P := fun σ G H v E w r Q q => by
  obtain ⟨a, xs, rfl, h1, h2⟩ := ds_tup r
  exact oG (pg_tup hc (pGs tgs) rfl hst) ⟨a, xs, rfl, ex_t w.w h1, by rw [hn, dpa_length h2], h σ G H xs E w (py_dss h2) Q q⟩
theorem wg_lst {tgs : List Expr} {js : List Nat} {l : List PyData} {k : Nat} {P : DE → MS → Prop} (h : WGs X tgs js (l.map .py) ds m P) (hc : X.calm = true := by rfl)
    (hn : (assignEach tgs X.env).length = l.length := by rfl) (hst : (assignEach tgs X.env).findIdx? (·.1) = none := by rfl) : WG X (.Tuple tgs k pos) js (Ls l) ds m P := fun σ G H v E w r Q q => by
  obtain ⟨a, xs, rfl, h1, h2⟩ := ds_lst r
  exact oG (pg_unl hc (pGs tgs) rfl hst) ⟨a, xs, rfl, ex_l w.w h1, by rw [hn, dpa_length h2], h σ G H xs E w (py_dss h2) Q q⟩

/-! ### statements -/
theorem wss_nil {E : ED} (p : E.nx ds m) : WSs X [] ds m E := fun σ G H e w D k => oSs pss_nil (k.nx _ _ _ _ _ (.refl w) e p)
theorem wss_cons {st : Stmt} {sts : List Stmt} {E : ED} (h : WS X st ds m { E with nx := fun ds1 m1 => WSs X sts ds1 m1 E }) : WSs X (st :: sts) ds m E := fun σ G H e w D k => oSs (pss_cons (pS st) (pSs sts))
  (h σ G H e w { D with nx := wSs X sts D } ⟨fun σ' ds' m' G' H' g e' p => p σ' G' H' e' g.wd D (k.after g), k.rt, k.bk, k.ct⟩)
theorem wss_one {st : Stmt} {E : ED} (h : WS X st ds m E) : WSs X [st] ds m E := fun σ G H e w D k => oSs (pss_one (pS st)) (h σ G H e w D k)
theorem ws_asg {tg : Expr} {js : List Nat} {E : ED} (h : WE X e ds m fun d m1 => WG X tg js d ds m1 E.nx) (hs : swapsWithSole [tg] e pos.line X.env = pure false := by rfl) (hw : swappedStores [tg] e X.env = pure none := by rfl)
    (h1 : (assignEach [tg] X.env).map (·.2) = [assign tg X.env] := by rfl) : WS X (.Assign [tg] e pos) ds m E := fun σ G H e0 w D k => oS (ps_asg (pE e) (pG tg) hs hw h1)
  (h σ G H e0 w _ fun v d m1 G1 H1 g1 r1 p => p σ G1 H1 v (e0.mono g1.g) g1.wd r1 _ fun σ' ds' m' G' H' g' e' _ q => k.nx _ _ _ _ _ (g1.trans g') e' q)
theorem ws_set {i : Nat} {x : Str} {pos' : Pos} {E : ED} (hN : X.N.Nodup) (h : WE X e ds m fun d m1 => E.nx (ds.set i (some d)) m1) (hi : X.N[i]? = some x := by rfl) (hx : Loc X.env.scope x := by first | exact Or.inl rfl | exact Or.inr rfl)
    (hs : swapsWith e (some (.Name x pos')) pos.line X.env = pure false := by rfl) (hf : X.fn x = true ∨ X.env.scope.names.lookup x = some .local := by first | exact .inl rfl | exact .inr rfl | assumption) : WS X (.Assign [.Name x pos'] e pos) ds m E := fun σ G H e0 w D k =>
  oS (ps_set hN hi hx (pE e) hs hf) (h σ G H e0 w _ fun v d m1 G1 H1 g1 r1 p => k.nx _ _ _ _ _ g1 ((e0.mono g1.g).set r1) p)
theorem ws_par {i j : Nat} {x y : Str} {px py pt : Pos} {kt k2 pt2} {E : ED} (hN : X.N.Nodup) (h : WA X [a, b] ds m fun xs m1 => ∃ d d2, xs = [d, d2] ∧ E.nx ((ds.set i (some d)).set j (some d2)) m1) (hi : X.N[i]? = some x := by rfl) (hj : X.N[j]? = some y := by rfl) (hij : i ≠ j := by decide)
    (hx : X.env.scope.names.lookup x = some .local := by rfl) (hy : X.env.scope.names.lookup y = some .local := by rfl) (hc : X.calm = true := by rfl)
    (hw : swappedStores [.Tuple [.Name x px, .Name y py] kt pt] (.Tuple [a, b] k2 pt2) X.env = pure (some [x, y]) := by rfl)
    (hs : swapsWithSole [.Tuple [.Name x px, .Name y py] kt pt] (.Tuple [a, b] k2 pt2) pos.line X.env = pure false := by rfl) :
    WS X (.Assign [.Tuple [.Name x px, .Name y py] kt pt] (.Tuple [a, b] k2 pt2) pos) ds m E := fun σ G H e0 w D k => oS (ps_par hc hN hi hj hij hx hy (pA [a, b]) hw hs)
  (h σ G H e0 w _ fun vs xs m1 G1 H1 g1 r1 ⟨d, d2, e1, p⟩ => by
    subst e1
    cases r1 with
    | cons r1 r2 => cases r2 with
      | cons r2 r3 =>
        cases r3
        exact ⟨_, _, rfl, k.nx _ _ _ _ _ g1 (((e0.mono g1.g).set r1).set r2) p⟩)
theorem ws_par3 {i j l : Nat} {x y z : Str} {px py pz pt : Pos} {kt k2 pt2} {E : ED} (hN : X.N.Nodup) (h : WA X [a, b, c] ds m fun xs m1 => ∃ d d2 d3, xs = [d, d2, d3] ∧ E.nx (((ds.set i (some d)).set j (some d2)).set l (some d3)) m1) (hi : X.N[i]? = some x := by rfl) (hj : X.N[j]? = some y := by rfl) (hl : X.N[l]? = some z := by rfl)
    (hij : i ≠ j := by decide) (hil : i ≠ l := by decide) (hjl : j ≠ l := by decide)
    (hx : X.env.scope.names.lookup x = some .local := by rfl) (hy : X.env.scope.names.lookup y = some .local := by rfl) (hz : X.env.scope.names.lookup z = some .local := by rfl) (hc : X.calm = true := by rfl)
    (hw : swappedStores [.Tuple [.Name x px, .Name y py, .Name z pz] kt pt] (.Tuple [a, b, c] k2 pt2) X.env = pure (some [x, y, z]) := by rfl)
    (hs : swapsWithSole [.Tuple [.Name x px, .Name y py, .Name z pz] kt pt] (.Tuple [a, b, c] k2 pt2) pos.line X.env = pure false := by rfl) :
    WS X (.Assign [.Tuple [.Name x px, .Name y py, .Name z pz] kt pt] (.Tuple [a, b, c] k2 pt2) pos) ds m E := fun σ G H e0 w D k => oS (ps_par3 hc hN hi hj hl hij hil hjl hx hy hz (pA [a, b, c]) hw hs)
  (h σ G H e0 w _ fun vs xs m1 G1 H1 g1 r1 ⟨d, d2, d3, e1, p⟩ => by
    subst e1
    cases r1 with
    | cons r1 r2 => cases r2 with
      | cons r2 r3 => cases r3 with
        | cons r3 r4 =>
          cases r4
          exact ⟨_, _, _, rfl, k.nx _ _ _ _ _ g1 ((((e0.mono g1.g).set r1).set r2).set r3) p⟩)
theorem ws_ret {E : ED} (h : WE X e ds m E.rt) : WS X (.Return (some e) pos) ds m E := fun σ G H e0 w D k => oS (ps_ret (pE e)) (h σ G H e0 w _ fun v d m1 G1 H1 g1 r1 p => k.rt _ _ _ _ _ g1 r1 p)
theorem ws_retN {E : ED} (h : E.rt N0 m) : WS X (.Return none pos) ds m E := fun σ G H e0 w D k => oS ps_retN (k.rt _ _ _ _ _ (.refl w) (.py .non) h)
theorem ws_if {t f : List Stmt} {E : ED} (h : WT X c ds m fun k m1 => if k = true then WSs X t ds m1 E else WSs X f ds m1 E) : WS X (.If c t f pos) ds m E := fun σ G H e0 w D k => oS (ps_if (pT c) (pSs t) (pSs f)) (by
  refine h σ G H e0 w _ fun kk m1 G1 H1 g1 p => ?_
  cases kk with
  | true =>
    rw [if_pos rfl] at p ⊢
    exact p σ G1 H1 (e0.mono g1.g) g1.wd D (k.after g1)
  | false =>
    rw [if_neg Bool.false_ne_true] at p ⊢
    exact p σ G1 H1 (e0.mono g1.g) g1.wd D (k.after g1))
theorem ws_ife {t f : List Stmt} {k : Bool} {E : ED} (h : ET X c ds k) (h1 : k = true → WSs X t ds m E) (h2 : k = false → WSs X f ds m E) : WS X (.If c t f pos) ds m E := ws_if (h.to (by
  cases k with
  | true => rw [if_pos rfl]; exact h1 rfl
  | false => rw [if_neg Bool.false_ne_true]; exact h2 rfl))
theorem ws_pass {E : ED} (p : E.nx ds m) : WS X (.Pass pos) ds m E := fun σ G H e w D k => oS ps_pass (k.nx _ _ _ _ _ (.refl w) e p)
theorem ws_break {E : ED} (p : E.bk ds m) : WS X (.Break pos) ds m E := fun σ G H e w D k => oS ps_break (k.bk _ _ _ _ _ (.refl w) e p)
theorem ws_continue {E : ED} (p : E.ct ds m) : WS X (.Continue pos) ds m E := fun σ G H e w D k => oS ps_continue (k.ct _ _ _ _ _ (.refl w) e p)
theorem ws_expr {E : ED} (h : WE X e ds m fun _ m1 => E.nx ds m1) (hs : swapsWith e none pos.line X.env = pure false := by rfl) : WS X (.Expr e pos) ds m E := fun σ G H e0 w D k => oS (ps_expr (pE e) hs) (h σ G H e0 w _ fun v d m1 G1 H1 g1 r1 p => k.nx _ _ _ _ _ g1 (e0.mono g1.g) p)
/-- what is owned: an item, a store, an append -/
theorem own_get {K : PySem.W.Frag} {G H : Hp} {p : Addr} {l : List PyData} (w : Wd K m G H) (h : (p, OV.dl l) ∈ m) : ∃ vs, H p = some (.lst vs) ∧ DpAll K G vs l := by
  obtain ⟨_, o, h1, vs, h2, h3⟩ := w.own _ h
  subst h2
  exact ⟨vs, h1, h3⟩
theorem sub_own {p : Addr} {l : List PyData} {i : Int} {d : PyData} (h : (p, OV.dl l) ∈ m) (hi : 0 ≤ i) (hd : l[i.toNat]? = some d) : SubD X m (.raw (.ref p)) (I i) (.py d) := ⟨_, ix_list, fun G H v u w r1 r2 Q q => by
  cases ds_raw r1
  cases ds_int r2
  obtain ⟨vs, h1, h2⟩ := own_get w h
  obtain ⟨x, h3, h4⟩ := dpa_get h2 hd
  exact ⟨p, vs, i, x, rfl, rfl, SqL.of h1, at_of (j := i.toNat) (by omega) h3, q _ _ _ (.refl w) (.py h4)⟩⟩
theorem dpa_set {K : PySem.W.Frag} {G : Hp} {v : V} {d : PyData} (r : Dp K G v d) : ∀ {vs : List V} {ds : List PyData} (i : Nat), DpAll K G vs ds → DpAll K G (vs.set i v) (ds.set i d)
  | _, _, _, .nil => .nil
  | _, _, 0, .cons _ t => .cons r t
  | _, _, i + 1, .cons q t => .cons q (dpa_set r i t)
theorem ws_store {o i : Expr} {tpos : Pos} {p : Addr} {j : Int} {E : ED} (ho : EE X o ds (.raw (.ref p))) (hi : EE X i ds (PySem.PyData.int j |> SD.py)) (h : WE X e ds m fun d m1 => ∃ d' l, d = .py d' ∧ (p, OV.dl l) ∈ m1 ∧ 0 ≤ j ∧ j < l.length ∧ E.nx ds (mset m1 p (.dl (l.set j.toNat d'))))
    (ha : ∀ v, assign (.Subscript o i tpos) X.env v = (do
      let ov ← holding [v] (eval o X.env)
      let iv ← holding [v, ov] (eval i X.env)
      standAt tpos
      holding [v, ov, iv] (setItem ov iv v)
      release [v, ov, iv] []) := by intro _; rfl) (hs : swapsWithSole [.Subscript o i tpos] e pos.line X.env = pure false := by rfl) (hw : swappedStores [.Subscript o i tpos] e X.env = pure none := by rfl)
    (h1 : (assignEach [.Subscript o i tpos] X.env).map (·.2) = [assign (.Subscript o i tpos) X.env] := by rfl) : WS X (.Assign [.Subscript o i tpos] e pos) ds m E := fun σ G H e0 w D k =>
  oS (ps_asg (pE e) (pg_sub (pE o) (pE i) set_list ha) hs hw h1) (h σ G H e0 w _ fun v d m1 G1 H1 g1 r1 ⟨d', l, e1, hm, h0, hj, p'⟩ => by
    subst e1
    refine ho m1 σ G1 H1 (e0.mono g1.g) g1.wd _ fun ov od m2 G2 H2 g2 r2 ⟨e1, e2⟩ => ?_
    subst e1 e2
    refine hi m2 σ G2 H2 (e0.mono (g1.trans g2).g) g2.wd _ fun iv id m3 G3 H3 g3 r3 ⟨e1, e2⟩ => ?_
    subst e1 e2
    cases ds_raw r2
    cases ds_int r3
    obtain ⟨vs, h1, h2⟩ := own_get g3.wd hm
    have hl := dpa_length h2
    have hjn : ixN vs.length j = some j.toNat := by
      unfold ixN
      rw [if_pos h0, if_pos (by omega)]
    refine ⟨p, vs, j, j.toNat, rfl, rfl, h1, hjn, ?_⟩
    have r4 : Dp X.K G3 v d' := by
      cases ds_mono (g2.trans g3).g r1 with
      | py z => exact z
    have g4 := Gr.set (o := .lst (vs.set j.toNat v)) (v := .dl (l.set j.toNat d')) g3.wd hm ⟨_, rfl, dpa_set r4 _ h2⟩
    exact k.nx _ _ _ _ _ (((g1.trans g2).trans g3).trans g4) (e0.mono (((g1.trans g2).trans g3).trans g4).g) p')
theorem ws_app {o : Expr} {apos cpos : Pos} {p : Addr} {E : ED} (ho : EE X o ds (.raw (.ref p))) (hp0 : ∃ l0, (p, OV.dl l0) ∈ m) (h : WE X e ds m fun d m1 => ∃ d' l, d = .py d' ∧ (p, OV.dl l) ∈ m1 ∧ l.length < 1000000 ∧ E.nx ds (mset m1 p (.dl (l ++ [d']))))
    (hbase : attributeBase o "append" X.env (eval o X.env) = eval o X.env := by rfl)
    (hfew : ((backTo cpos (starEach (e :: []) X.env)).all (fun x => !x.1) && (backToKw cpos (keywordEach [] X.env)).all (fun x => x.1.isSome)
      && decide ((e :: ([] : List Expr)).length + ([] : List Keyword).length + (if ([] : List Keyword).isEmpty then 0 else 1) < 30)) = true := by rfl)
    (hline : (apos.endLine == cpos.line) = true := by rfl) (hs : starEach (e :: []) X.env = (false, eval e X.env) :: starEach [] X.env := by rfl) (hplain : (backTo cpos (starEach [] X.env)).any (·.1) = false := by rfl)
    (hsw : swapsWith (.Call (.Attribute o "append" apos) [e] [] cpos) none pos.line X.env = pure false := by rfl) : WS X (.Expr (.Call (.Attribute o "append" apos) [e] [] cpos) pos) ds m E := fun σ G H e0 w D k =>
  oS (ps_expr (pe_bm PySem.F.plainAttrs_list PySem.F.slot_list_append PySem.F.type_list_append mt_append (pE o) (pa_cons (pE e) pa_nil hs) hbase hfew hline hs hplain) hsw) (by
    refine ho m σ G H e0 w _ fun ov od m1 G1 H1 g1 r1 ⟨e1, e2⟩ => ?_
    subst e1 e2
    cases ds_raw r1
    obtain ⟨l0, hl0⟩ := hp0
    obtain ⟨vs0, h1, _⟩ := own_get g1.wd hl0
    refine ⟨.inl ⟨rfl, vs0, SqL.of h1⟩, ?_⟩
    refine h σ G1 H1 (e0.mono g1.g) g1.wd _ fun v d m2 G2 H2 g2 r2 ⟨d', l, e1, hm, hl, p'⟩ => ?_
    subst e1
    obtain ⟨vs, h3, h4⟩ := own_get g2.wd hm
    have hlen := dpa_length h4
    refine ⟨p, vs, v, rfl, rfl, h3, by have := sizeLine_eq; omega, ?_⟩
    have r4 : Dp X.K G2 v d' := by
      cases r2 with
      | py z => exact z
    have g4 := Gr.set (o := .lst (vs ++ [v])) (v := .dl (l ++ [d'])) g2.wd hm ⟨_, rfl, dpa_append h4 (.cons r4 .nil)⟩
    exact k.nx _ _ _ _ _ ((g1.trans g2).trans g4) (e0.mono ((g1.trans g2).trans g4).g) p')
/-- an owned list becomes plain data -/
theorem wss_seal {sts : List Stmt} {i : Nat} {p : Addr} {l : List PyData} {E : ED} (hd : ds[i]? = some (some (.raw (.ref p)))) (h : WSs X sts (ds.set i (some (Ls l))) m E) : WSs X sts ds ((p, .dl l) :: m) E := fun σ G H e0 w D k => by
  obtain ⟨vs, h1, h2⟩ := own_get w List.mem_cons_self
  have g := Gr.seal w h1
  obtain ⟨v, hv, hr⟩ := e0.2 i _ hd
  cases ds_raw hr
  exact h σ _ H ((e0.mono g.g).retype hv (.py (.lst (SqL.of upd_same) (dpa_mono g.g h2)))) g.wd D (k.after g)
theorem we_seal {i : Nat} {p : Addr} {l : List PyData} {P : SD → MS → Prop} (hd : ds[i]? = some (some (.raw (.ref p)))) (h : WE X e (ds.set i (some (Ls l))) m P) : WE X e ds ((p, .dl l) :: m) P := fun σ G H e0 w Q q => by
  obtain ⟨vs, h1, h2⟩ := own_get w List.mem_cons_self
  have g := Gr.seal w h1
  obtain ⟨v, hv, hr⟩ := e0.2 i _ hd
  cases ds_raw hr
  exact h σ _ H ((e0.mono g.g).retype hv (.py (.lst (SqL.of upd_same) (dpa_mono g.g h2)))) g.wd Q fun v d m' G' H' g' => q v d m' G' H' (g.trans g')
theorem Gr.perm {K : PySem.W.Frag} {m m' : MS} {G H : Hp} (w : Wd K m G H) (h : m.Perm m') : Gr K m m' G H G H := ⟨Ex.refl _, fun _ _ _ e => e, fun _ e => e, fun _ _ e _ => e, fun q hq => .inl (mem_ad (h.mem_iff.mpr hq)), w.perm h⟩
theorem wss_perm {sts : List Stmt} {m' : MS} {E : ED} (hp : m.Perm m') (h : WSs X sts ds m' E) : WSs X sts ds m E := fun σ G H e0 w D k => h σ G H e0 (w.perm hp) D (k.after (Gr.perm w hp))
theorem wss_drop {sts : List Stmt} {p : Addr} {v : OV} {E : ED} (h : WSs X sts ds m E) : WSs X sts ds ((p, v) :: m) E := fun σ G H e0 w D k => h σ G H e0 (Gr.drop w).wd D (k.after (Gr.drop w))
theorem WSs.mono {sts : List Stmt} {E E' : ED} (h : WSs X sts ds m E) (k : ∀ d m', E.nx d m' → E'.nx d m') (k2 : ∀ d m', E.rt d m' → E'.rt d m') (k3 : ∀ d m', E.bk d m' → E'.bk d m') (k4 : ∀ d m', E.ct d m' → E'.ct d m') : WSs X sts ds m E' := fun σ G H e0 w D q =>
  h σ G H e0 w D ⟨fun _ _ _ _ _ g e p => q.nx _ _ _ _ _ g e (k _ _ p), fun _ _ _ _ _ g e p => q.rt _ _ _ _ _ g e (k2 _ _ p), fun _ _ _ _ _ g e p => q.bk _ _ _ _ _ g e (k3 _ _ p), fun _ _ _ _ _ g e p => q.ct _ _ _ _ _ g e (k4 _ _ p)⟩
end

/-! ### what is walked -/
def ItD (K : PySem.W.Frag) (J : It) (G : Hp) (xs : List SD) : Prop :=
  (∀ i H, Ex G H → i < xs.length → J.go i H) ∧ (∀ H, Ex G H → J.stop xs.length H) ∧
  ∀ i m' G' H x H', Ex G G' → Wd K m' G' H → i < xs.length → J.yld i H x H' → ∃ G'' d, Gr K m' m' G' H G'' H' ∧ xs[i]? = some d ∧ DS K G'' x d
def WI (X : Cx) (tg iter : Expr) (ds : DE) (m : MS) (R : List SD → MS → Prop) : Prop := ∀ σ G H, EnvD X.K G σ ds → Wd X.K m G H → ∀ R' : It → Hp → Prop, (∀ J xs m' G' H', Gr X.K m m' G H G' H' → ItD X.K J G' xs → R xs m' → R' J H') → wI X tg iter σ H R'
def EI (X : Cx) (tg iter : Expr) (ds : DE) (xs : List SD) : Prop := ∀ m, WI X tg iter ds m fun xs' m' => xs' = xs ∧ m' = m
section
variable {X : Cx} {ds : DE} {m : MS} {e a b c tg : Expr} {es rest : List Expr} {pos : Pos}
theorem EI.to {xs : List SD} {R : List SD → MS → Prop} (h : EI X tg e ds xs) (p : R xs m) : WI X tg e ds m R := fun σ G H E w R' q => h m σ G H E w R' fun J xs' m' G' H' g i ⟨e1, e2⟩ => by subst e1 e2; exact q _ _ _ _ _ g i p
theorem ei_lst {l : List PyData} (h : EE X e ds (Ls l)) : EI X tg e ds (l.map .py) := fun m σ G H E w R' q => oI (pi_list (pE e)) (h m σ G H E w _ fun v d m1 G1 H1 g1 r1 ⟨e1, e2⟩ => by
  subst e1 e2
  obtain ⟨a, vs, rfl, h1, h2⟩ := ds_lst r1
  have hl : vs.length = l.length := dpa_length h2
  refine ⟨a, rfl, ⟨vs, ex_l g1.wd.w h1⟩, q _ _ _ _ _ g1 ⟨fun i H e hi => ?_, fun H e => ⟨vs, ex_l e h1, by rw [hl]; simp⟩, fun i m' G' H x H' e w' hi y => ?_⟩ ⟨rfl, rfl⟩⟩
  · have hi' : i < vs.length := by rw [hl]; simpa using hi
    exact ⟨vs, vs[i], ex_l e h1, List.getElem?_eq_getElem hi'⟩
  · obtain ⟨e1, y⟩ := y
    subst e1
    have hx := y vs (ex_l (e.trans w'.w) h1)
    obtain ⟨d, h3, h4⟩ := dpa_get' h2 hx
    exact ⟨G', .py d, .refl w', by rw [List.getElem?_map, h3]; rfl, .py (dp_mono e h4)⟩)
theorem wi_lst {P : List SD → MS → Prop} (h : WE X e ds m fun d m1 => ∃ l, d = Ls l ∧ P (l.map .py) m1) : WI X tg e ds m P := fun σ G H E w R' q => oI (pi_list (pE e)) (h σ G H E w _ fun v d m1 G1 H1 g1 r1 ⟨l, e1, p⟩ => by
  subst e1
  obtain ⟨a, vs, rfl, h1, h2⟩ := ds_lst r1
  have hl : vs.length = l.length := dpa_length h2
  refine ⟨a, rfl, ⟨vs, ex_l g1.wd.w h1⟩, q _ _ _ _ _ g1 ⟨fun i H e hi => ?_, fun H e => ⟨vs, ex_l e h1, by rw [hl]; simp⟩, fun i m' G' H x H' e w' hi y => ?_⟩ p⟩
  · have hi' : i < vs.length := by rw [hl]; simpa using hi
    exact ⟨vs, vs[i], ex_l e h1, List.getElem?_eq_getElem hi'⟩
  · obtain ⟨e1, y⟩ := y
    subst e1
    have hx := y vs (ex_l (e.trans w'.w) h1)
    obtain ⟨d, h3, h4⟩ := dpa_get' h2 hx
    exact ⟨G', .py d, .refl w', by rw [List.getElem?_map, h3]; rfl, .py (dp_mono e h4)⟩)
theorem ei_tup {l : List PyData} (h : EE X e ds (Tp l)) : EI X tg e ds (l.map .py) := fun m σ G H E w R' q => oI (pi_tup (pE e)) (h m σ G H E w _ fun v d m1 G1 H1 g1 r1 ⟨e1, e2⟩ => by
  subst e1 e2
  obtain ⟨a, vs, rfl, h1, h2⟩ := ds_tup r1
  have hl : vs.length = l.length := dpa_length h2
  refine ⟨a, rfl, ⟨vs, ex_t g1.wd.w h1⟩, q _ _ _ _ _ g1 ⟨fun i H e hi => ?_, fun H e => ⟨vs, ex_t e h1, by rw [hl]; simp⟩, fun i m' G' H x H' e w' hi y => ?_⟩ ⟨rfl, rfl⟩⟩
  · have hi' : i < vs.length := by rw [hl]; simpa using hi
    exact ⟨vs, vs[i], ex_t e h1, List.getElem?_eq_getElem hi'⟩
  · obtain ⟨e1, y⟩ := y
    subst e1
    have hx := y vs (ex_t (e.trans w'.w) h1)
    obtain ⟨d, h3, h4⟩ := dpa_get' h2 hx
    exact ⟨G', .py d, .refl w', by rw [List.getElem?_map, h3]; rfl, .py (dp_mono e h4)⟩)
theorem ei_str {l : List Nat} (h : EE X e ds (S l)) : EI X tg e ds (l.map fun c => S [c]) := fun m σ G H E w R' q => oI (pi_str (pE e)) (h m σ G H E w _ fun v d m1 G1 H1 g1 r1 ⟨e1, e2⟩ => by
  subst e1 e2
  cases ds_str r1
  refine ⟨_, rfl, q (Its ⟨l.toArray⟩) _ _ _ _ g1 ⟨fun i H e hi => ?_, fun H e => ?_, fun i m' G' H x H' e w' hi y => ?_⟩ ⟨rfl, rfl⟩⟩
  · show i < l.toArray.size
    simpa using hi
  · show l.toArray.size ≤ (l.map fun c => S [c]).length
    simp
  · obtain ⟨e1, c, h1, h2⟩ := y
    subst e1 h2
    have h1 : l[i]? = some c := by simpa using h1
    refine ⟨G', S [c], .refl w', by rw [List.getElem?_map, h1]; rfl, ?_⟩
    exact .py (.str _))
theorem map_range_get {α : Type} {n i : Nat} {f : Nat → α} (h : i < n) : ((List.range n).map f)[i]? = some (f i) := by
  rw [List.getElem?_map, List.getElem?_range h]
  rfl
theorem ei_range1 {n : Int} {p : Pos} (h : EE X a ds (I n)) (hn : -(2 ^ 62) ≤ n ∧ n < 2 ^ 62) (hm : X.mg "range" = none) (hg : Gl X "range" := by rfl) (hs : starEach [a] X.env = [(false, eval a X.env)] := by rfl) :
    EI X tg (.Call (.Name "range" p) [a] [] pos) ds ((List.range n.toNat).map fun (i : Nat) => I (i : Int)) := fun m σ G H E w R' q => oI (pi_range1 hg hm (pa_cons (pE a) pa_nil (by rw [hs]; rfl)) hs) (h m σ G H E w _ fun v d m1 G1 H1 g1 r1 ⟨e1, e2⟩ => by
  subst e1 e2
  cases ds_int r1
  refine ⟨n, rfl, hn.1, hn.2, q _ _ _ _ _ g1 ⟨fun i H e hi => ?_, fun H e => ?_, fun i m' G' H x H' e w' hi y => ?_⟩ ⟨rfl, rfl⟩⟩
  · show i < n.toNat
    rw [List.length_map, List.length_range] at hi; exact hi
  · show n.toNat ≤ ((List.range n.toNat).map fun (i : Nat) => I (i : Int)).length
    rw [List.length_map, List.length_range]; exact Nat.le_refl _
  · obtain ⟨e1, e2⟩ := y
    subst e1 e2
    refine ⟨G', I ((0 : Int) + (i : Int)), .refl w', ?_, .py (.int _)⟩
    rw [map_range_get (by simpa using hi), Int.zero_add])
theorem wi_range1 {p : Pos} {P : List SD → MS → Prop} (h : WE X a ds m fun d m1 => ∃ n : Int, d = I n ∧ (-(2 ^ 62) ≤ n ∧ n < 2 ^ 62) ∧ P ((List.range n.toNat).map fun (i : Nat) => I (i : Int)) m1) (hm : X.mg "range" = none) (hg : Gl X "range" := by rfl) (hs : starEach [a] X.env = [(false, eval a X.env)] := by rfl) :
    WI X tg (.Call (.Name "range" p) [a] [] pos) ds m P := fun σ G H E w R' q => oI (pi_range1 hg hm (pa_cons (pE a) pa_nil (by rw [hs]; rfl)) hs) (h σ G H E w _ fun v d m1 G1 H1 g1 r1 ⟨n, e1, hn, p⟩ => by
  subst e1
  cases ds_int r1
  refine ⟨n, rfl, hn.1, hn.2, q _ _ _ _ _ g1 ⟨fun i H e hi => ?_, fun H e => ?_, fun i m' G' H x H' e w' hi y => ?_⟩ p⟩
  · show i < n.toNat
    rw [List.length_map, List.length_range] at hi; exact hi
  · show n.toNat ≤ ((List.range n.toNat).map fun (i : Nat) => I (i : Int)).length
    rw [List.length_map, List.length_range]; exact Nat.le_refl _
  · obtain ⟨e1, e2⟩ := y
    subst e1 e2
    refine ⟨G', I ((0 : Int) + (i : Int)), .refl w', ?_, .py (.int _)⟩
    rw [map_range_get (by simpa using hi), Int.zero_add])
theorem ei_range2 {lo n : Int} {p : Pos} (h : EE X a ds (I lo)) (h2 : EE X b ds (I n)) (hn : -(2 ^ 62) ≤ lo ∧ lo < 2 ^ 62 ∧ -(2 ^ 62) ≤ n ∧ n < 2 ^ 62) (hm : X.mg "range" = none) (hg : Gl X "range" := by rfl)
    (hs : starEach [a, b] X.env = [(false, eval a X.env), (false, eval b X.env)] := by rfl) (hs2 : starEach [b] X.env = [(false, eval b X.env)] := by rfl) :
    EI X tg (.Call (.Name "range" p) [a, b] [] pos) ds ((List.range (n - lo).toNat).map fun (i : Nat) => I (lo + (i : Int))) := fun m σ G H E w R' q => oI (pi_range2 hg hm (pa_cons (pE a) (pa_cons (pE b) pa_nil (by rw [hs2]; rfl)) (by rw [hs, hs2])) hs hs2) (h m σ G H E w _ fun v d m1 G1 H1 g1 r1 ⟨e1, e2⟩ => by
  subst e1 e2
  cases ds_int r1
  refine h2 m1 σ G1 H1 (E.mono g1.g) g1.wd _ fun v d m2 G2 H2 g2 r2 ⟨e1, e2⟩ => ?_
  subst e1 e2
  cases ds_int r2
  refine ⟨lo, n, rfl, hn, q _ _ _ _ _ (g1.trans g2) ⟨fun i H e hi => ?_, fun H e => ?_, fun i m' G' H x H' e w' hi y => ?_⟩ ⟨rfl, rfl⟩⟩
  · show i < (n - lo).toNat
    rw [List.length_map, List.length_range] at hi; exact hi
  · show (n - lo).toNat ≤ ((List.range (n - lo).toNat).map fun (i : Nat) => I (lo + (i : Int))).length
    rw [List.length_map, List.length_range]; exact Nat.le_refl _
  · obtain ⟨e1, e2⟩ := y
    subst e1 e2
    exact ⟨G', I (lo + (i : Int)), .refl w', by rw [map_range_get (by simpa using hi)], .py (.int _)⟩)
theorem ei_range3 {lo hi st : Int} {n : Nat} {p : Pos} (h : EE X a ds (I lo)) (h2 : EE X b ds (I hi)) (h3 : EE X c ds (I st)) (hn : RgC lo hi st n) (hm : X.mg "range" = none) (hg : Gl X "range" := by rfl)
    (hs : starEach [a, b, c] X.env = (false, eval a X.env) :: starEach [b, c] X.env := by rfl) (hpl : (backTo pos (starEach [b, c] X.env)).any (·.1) = false := by rfl)
    (hs1 : starEach [b, c] X.env = (false, eval b X.env) :: starEach [c] X.env := by rfl) (hs2 : starEach [c] X.env = (false, eval c X.env) :: starEach [] X.env := by rfl) :
    EI X tg (.Call (.Name "range" p) [a, b, c] [] pos) ds ((List.range n).map fun (i : Nat) => I (lo + (i : Int) * st)) := fun m σ G H E w R' q => oI (pi_range3 hg hm (pa_cons (pE a) (pa_cons (pE b) (pa_cons (pE c) pa_nil hs2) hs1) hs) hs hpl) (h m σ G H E w _ fun v d m1 G1 H1 g1 r1 ⟨e1, e2⟩ => by
  subst e1 e2
  cases ds_int r1
  refine h2 m1 σ G1 H1 (E.mono g1.g) g1.wd _ fun v d m2 G2 H2 g2 r2 ⟨e1, e2⟩ => ?_
  subst e1 e2
  cases ds_int r2
  refine h3 m2 σ G2 H2 (E.mono (g1.trans g2).g) g2.wd _ fun v d m3 G3 H3 g3 r3 ⟨e1, e2⟩ => ?_
  subst e1 e2
  cases ds_int r3
  refine ⟨lo, hi, st, n, rfl, hn, q _ _ _ _ _ ((g1.trans g2).trans g3) ⟨fun i H e hi => ?_, fun H e => ?_, fun i m' G' H x H' e w' hi y => ?_⟩ ⟨rfl, rfl⟩⟩
  · show i < n
    rw [List.length_map, List.length_range] at hi; exact hi
  · show n ≤ ((List.range n).map fun (i : Nat) => I (lo + (i : Int) * st)).length
    rw [List.length_map, List.length_range]; exact Nat.le_refl _
  · obtain ⟨e1, e2⟩ := y
    subst e1 e2
    exact ⟨G', I (lo + (i : Int) * st), .refl w', by rw [map_range_get (by simpa using hi)], .py (.int _)⟩)
/-- zip of two tuples, of two lists -/
theorem zip_get {l k : List PyData} {i : Nat} {d d2 : PyData} (h : l[i]? = some d) (h2 : k[i]? = some d2) : ((List.zip l k).map fun (q : PyData × PyData) => Tp [q.1, q.2])[i]? = some (Tp [d, d2]) := by
  rw [List.getElem?_map, List.getElem?_zip_eq_some (z := (d, d2)) |>.mpr ⟨h, h2⟩]
  rfl
theorem ei_zipT {l k : List PyData} {p : Pos} {elts : List Expr} {kk : Nat} {tpos : Pos} (h : EE X a ds (Tp l)) (h2 : EE X b ds (Tp k)) (hm : X.mg "zip" = none) (hg : Gl X "zip" := by rfl)
    (hs : starEach [a, b] X.env = (false, eval a X.env) :: starEach [b] X.env := by rfl) (hpl : (backTo pos (starEach [b] X.env)).any (·.1) = false := by rfl) (hs2 : starEach [b] X.env = (false, eval b X.env) :: starEach [] X.env := by rfl) :
    EI X (.Tuple elts kk tpos) (.Call (.Name "zip" p) [a, b] [] pos) ds ((List.zip l k).map fun (q : PyData × PyData) => Tp [q.1, q.2]) := fun m σ G H E w R' q => oI (RZ.pi_zipA hg hm (pa_cons (pE a) (pa_cons (pE b) pa_nil hs2) hs) hs hpl) (h m σ G H E w _ fun v d m1 G1 H1 g1 r1 ⟨e1, e2⟩ => by
  subst e1 e2
  refine h2 m1 σ G1 H1 (E.mono g1.g) g1.wd _ fun v2 d m2 G2 H2 g2 r2 ⟨e1, e2⟩ => ?_
  subst e1 e2
  obtain ⟨a1, xs, rfl, p1, p2⟩ := ds_tup (ds_mono g2.g r1)
  obtain ⟨a2, ys, rfl, p3, p4⟩ := ds_tup r2
  have l1 := dpa_length p2
  have l2 := dpa_length p4
  refine ⟨a1, a2, xs, ys, rfl, .inr ⟨ex_t g2.wd.w p1, ex_t g2.wd.w p3, q _ _ _ _ _ (g1.trans g2) ⟨fun i H e hi => ?_, fun H e => ?_, fun i m' G' H x H' e w' hi y => ?_⟩ ⟨rfl, rfl⟩⟩⟩
  · have hi : i < min l.length k.length := by simpa using hi
    exact ⟨xs, ys, xs[i]'(by omega), ys[i]'(by omega), ex_t e p1, ex_t e p3, List.getElem?_eq_getElem _, List.getElem?_eq_getElem _⟩
  · refine ⟨xs, ys, ex_t e p1, ex_t e p3, ?_⟩
    rw [List.length_map, List.length_zip]
    omega
  · obtain ⟨T, x1, x2, rfl, nT, rfl, f1, f2⟩ := y
    obtain ⟨d, h3, h4⟩ := dpa_get' p2 (f1 xs (ex_t (e.trans w'.w) p1))
    obtain ⟨d2, h5, h6⟩ := dpa_get' p4 (f2 ys (ex_t (e.trans w'.w) p3))
    have g3 := Gr.new (o := .tup [x1, x2]) w' nT
    exact ⟨_, Tp [d, d2], g3, zip_get h3 h5, .py (.tup (SqT.of upd_same) (.cons (dp_mono (e.trans g3.g) h4) (.cons (dp_mono (e.trans g3.g) h6) .nil)))⟩)
theorem ei_zipL {l k : List PyData} {p : Pos} {elts : List Expr} {kk : Nat} {tpos : Pos} (h : EE X a ds (Ls l)) (h2 : EE X b ds (Ls k)) (hm : X.mg "zip" = none) (hg : Gl X "zip" := by rfl)
    (hs : starEach [a, b] X.env = (false, eval a X.env) :: starEach [b] X.env := by rfl) (hpl : (backTo pos (starEach [b] X.env)).any (·.1) = false := by rfl) (hs2 : starEach [b] X.env = (false, eval b X.env) :: starEach [] X.env := by rfl) :
    EI X (.Tuple elts kk tpos) (.Call (.Name "zip" p) [a, b] [] pos) ds ((List.zip l k).map fun (q : PyData × PyData) => Tp [q.1, q.2]) := fun m σ G H E w R' q => oI (pi_zip hg hm (pa_cons (pE a) (pa_cons (pE b) pa_nil hs2) hs) hs hpl) (h m σ G H E w _ fun v d m1 G1 H1 g1 r1 ⟨e1, e2⟩ => by
  subst e1 e2
  refine h2 m1 σ G1 H1 (E.mono g1.g) g1.wd _ fun v2 d m2 G2 H2 g2 r2 ⟨e1, e2⟩ => ?_
  subst e1 e2
  obtain ⟨a1, xs, rfl, p1, p2⟩ := ds_lst (ds_mono g2.g r1)
  obtain ⟨a2, ys, rfl, p3, p4⟩ := ds_lst r2
  have l1 := dpa_length p2
  have l2 := dpa_length p4
  refine ⟨a1, a2, xs, ys, rfl, ex_l g2.wd.w p1, ex_l g2.wd.w p3, q _ _ _ _ _ (g1.trans g2) ⟨fun i H e hi => ?_, fun H e => ?_, fun i m' G' H x H' e w' hi y => ?_⟩ ⟨rfl, rfl⟩⟩
  · have hi : i < min l.length k.length := by simpa using hi
    exact ⟨xs, ys, xs[i]'(by omega), ys[i]'(by omega), ex_l e p1, ex_l e p3, List.getElem?_eq_getElem _, List.getElem?_eq_getElem _⟩
  · refine ⟨xs, ys, ex_l e p1, ex_l e p3, ?_⟩
    rw [List.length_map, List.length_zip]
    omega
  · obtain ⟨T, x1, x2, rfl, nT, rfl, f1, f2⟩ := y
    obtain ⟨d, h3, h4⟩ := dpa_get' p2 (f1 xs (ex_l (e.trans w'.w) p1))
    obtain ⟨d2, h5, h6⟩ := dpa_get' p4 (f2 ys (ex_l (e.trans w'.w) p3))
    have g3 := Gr.new (o := .tup [x1, x2]) w' nT
    exact ⟨_, Tp [d, d2], g3, zip_get h3 h5, .py (.tup (SqT.of upd_same) (.cons (dp_mono (e.trans g3.g) h4) (.cons (dp_mono (e.trans g3.g) h6) .nil)))⟩)

/-! ### for -/
theorem ws_for {iter : Expr} {body : List Stmt} {js : List Nat} {E : ED} (h : WI X tg iter ds m fun xs m1 => ∃ Iv : Nat → DE → MS → Prop, Iv 0 ds m1 ∧
      (∀ i x ds' m', xs[i]? = some x → Iv i ds' m' → WG X tg js x ds' m' fun ds2 m2 => WSs X body ds2 m2 { E with nx := Iv (i + 1), ct := Iv (i + 1), bk := E.nx }) ∧ ∀ ds' m', Iv xs.length ds' m' → E.nx ds' m')
    (hp : PassesOwn (model X.prog X.w) X.A X.env X.xe := by exact PassesOwn.never) (hc : X.calm = true := by rfl) (hs : ∀ x, foldedSetIterable iter X.env x = pure x := by intro _; rfl) : WS X (.For tg iter body [] pos) ds m E := fun σ G H e0 w D k =>
  oS (ps_for hp hc (pI tg iter) (pG tg) (pSs body) hs) (h σ G H e0 w _ fun J xs m1 G1 H1 g1 it ⟨Iv, i0, turn, fin⟩ => by
    obtain ⟨go, stop, yld⟩ := it
    refine ⟨fun i mm σ' H' => mm = xs.length - i ∧ i ≤ xs.length ∧ ∃ ds' m' G', Gr X.K m1 m' G1 H1 G' H' ∧ EnvD X.K G' σ' ds' ∧ Iv i ds' m', ⟨_, rfl, Nat.zero_le _, ds, m1, G1, .refl g1.wd, e0.mono g1.g, i0⟩, ?_⟩
    rintro i mm σ' H' ⟨rfl, hi, ds', m', G', g2, e2, iv⟩
    by_cases hlt : i < xs.length
    · refine .inr ⟨go i H' (g2.g.trans g2.wd.w) hlt, fun σ'' H'' => ∃ ds'' m'' G'', Gr X.K m1 m'' G1 H1 G'' H'' ∧ EnvD X.K G'' σ'' ds'' ∧ Iv (i + 1) ds'' m'', fun σ'' H'' ⟨ds'', m'', G'', a, b, c⟩ => ⟨xs.length - (i + 1), by omega, rfl, hlt, ds'', m'', G'', a, b, c⟩, fun x H'' y => ?_⟩
      obtain ⟨G3, d, g3, hd, r3⟩ := yld i m' G' H' x H'' g2.g g2.wd hlt y
      refine turn i d ds' m' hd iv σ' G3 H'' x (e2.mono g3.g) g3.wd r3 _ fun σ4 ds4 m4 G4 H4 g4 e4 _ p4 => ?_
      have gg := (g2.trans g3).trans g4
      refine p4 σ4 G4 H4 e4 g4.wd _ ⟨fun σ5 ds5 m5 G5 H5 g5 e5 p5 => ⟨ds5, m5, G5, gg.trans g5, e5, p5⟩, fun v d5 m5 G5 H5 g5 r5 p5 => k.rt _ _ _ _ _ ((g1.trans gg).trans g5) r5 p5, fun σ5 ds5 m5 G5 H5 g5 e5 p5 => k.nx _ _ _ _ _ ((g1.trans gg).trans g5) e5 p5, fun σ5 ds5 m5 G5 H5 g5 e5 p5 => ⟨ds5, m5, G5, gg.trans g5, e5, p5⟩⟩
    · have e : i = xs.length := by omega
      subst e
      exact .inl ⟨stop H' (g2.g.trans g2.wd.w), k.nx _ _ _ _ _ (g1.trans g2) e2 (fin _ _ iv)⟩)

/-! ### list comprehensions -/
abbrev Blk (X : Cx) (scope : Scope) (s : Shared) (H : Hp) (C : Addr) (cl : List (Str × Addr)) (fp : List Addr) : Cx := X.blk s H scope (compEnvC scope cl C X.env) fp
theorem wts_nil {P : Bool → MS → Prop} (p : P true m) : WTs X [] ds m P := fun σ G H E w Q q pins s I => pts_nil.run pins s σ H Q I (q _ _ _ _ (.refl w) p)
theorem wts_one {P : Bool → MS → Prop} (h : WT X e ds m P) : WTs X [e] ds m P := fun σ G H E w Q q pins s I => (pts_one (pT e)).run pins s σ H Q I (h σ G H E w Q q)
/-- what holds in each block of a comprehension -/
def AllBlk (X : Cx) (scope : Scope) (P : Cx → Prop) : Prop := ∀ s H C cl fp, P (Blk X scope s H C cl fp)
/-- a turn of a comprehension -/
def LcTurn (X : Cx) (scope : Scope) (tg elt : Expr) (ifs : List Expr) (js : List Nat) (x : SD) (ds : DE) (m : MS) (Yes : PyData → MS → Prop) (No : MS → Prop) : Prop :=
  AllBlk X scope fun Y => WG Y tg js x (wipeD ds js) m fun ds2 m2 => AllBlk X scope fun Y => WTs Y ifs ds2 m2 fun k m3 => if k = true then AllBlk X scope fun Y => WE Y elt ds2 m3 (fun d m4 => ∃ d', d = .py d' ∧ Yes d' m4) else No m3
theorem lc_read {elt iter : Expr} {ifs : List Expr} {scope : Scope} {own : List (Str × Nat)} {σ : L2.St} {G H : Hp} {Q : VK} (e0 : EnvD X.K G σ ds) (w : Wd X.K m G H) {P : List PyData → MS → Prop}
    (h : WI X tg iter ds m fun xs m1 => xs.length ≤ 1000000 ∧ ∃ Iv : Nat → List PyData → MS → Prop, Iv 0 [] m1 ∧
      (∀ i x acc m', xs[i]? = some x → acc.length ≤ i → Iv i acc m' → LcTurn X scope tg elt ifs (own.map (·.2)) x ds m' (fun d m4 => Iv (i + 1) (acc ++ [d]) m4) (fun m4 => Iv (i + 1) acc m4)) ∧ ∀ acc m', acc.length ≤ xs.length → Iv xs.length acc m' → P acc m')
    (q : ∀ v acc m' G' H', Gr X.K m m' G H G' H' → DS X.K G' v (Ls acc) → P acc m' → Q v H') :
    tLc (wI X tg iter) (fun v σ H Q => ∀ s H0 C cl fp, wG (Blk X scope s H0 C cl fp) tg v σ H Q) (fun σ H Q => ∀ s H0 C cl fp, wTs (Blk X scope s H0 C cl fp) ifs σ H Q) (fun σ H Q => ∀ s H0 C cl fp, wE (Blk X scope s H0 C cl fp) elt σ H Q) (own.map (·.2)) σ H Q := by
  refine h σ G H e0 w _ fun J xs m1 G1 H1 g1 it ⟨hbig, Iv, i0, turn, fin⟩ => fun Dl hD => ?_
  obtain ⟨go, stop, yld⟩ := it
  have gD := Gr.made (o := .lst []) (v := .dl []) g1.wd hD ⟨[], rfl, .nil⟩
  refine ⟨fun i mm H' => mm = xs.length - i ∧ i ≤ xs.length ∧ ∃ acc m' G', Gr X.K m1 ((Dl, .dl acc) :: m') G1 H1 G' H' ∧ acc.length ≤ i ∧ Iv i acc m', ⟨_, rfl, Nat.zero_le _, [], m1, G1, gD, Nat.le_refl _, i0⟩, ?_⟩
  rintro i mm H' ⟨rfl, hi, acc, m', G', g2, hacc, iv⟩
  by_cases hlt : i < xs.length
  · refine .inr ⟨go i H' (g2.g.trans g2.wd.w) hlt, fun H'' => ∃ acc'' m'' G'', Gr X.K m1 ((Dl, .dl acc'') :: m'') G1 H1 G'' H'' ∧ acc''.length ≤ i + 1 ∧ Iv (i + 1) acc'' m'', fun H'' ⟨acc'', m'', G'', a, b, c⟩ => ⟨xs.length - (i + 1), by omega, rfl, hlt, acc'', m'', G'', a, b, c⟩, fun x H3 y => ?_⟩
    obtain ⟨G3, d, g3, hd, r3⟩ := yld i _ G' H' x H3 g2.g g2.wd hlt y
    intro s H0 C cl fp
    have e3 : EnvD X.K G3 (L2.wipe σ (own.map (·.2))) (wipeD ds (own.map (·.2))) := (e0.mono ((g1.trans g2).trans g3).g).wipe _
    have w3 : Wd X.K m' G3 H3 := Wd.sub (fr := [(Dl, .dl acc)]) g3.wd
    refine turn i d acc m' hd hacc iv s H0 C cl fp _ G3 H3 x e3 w3 r3 _ fun σ4 ds4 m4 G4 H4 g4 e4 k4 p4 => ?_
    have f4 := Gr.frame (fr := [(Dl, .dl acc)]) g3.wd g4
    refine ⟨wipe_same (by rw [k4.2, L2.wipe_length]) k4.1, fun s H0 C cl fp => ?_⟩
    refine p4 s H0 C cl fp σ4 G4 H4 e4 g4.wd _ fun kk m5 G5 H5 g5 p5 => ?_
    have f5 := Gr.frame (fr := [(Dl, .dl acc)]) f4.wd g5
    cases kk with
    | false =>
      rw [if_neg Bool.false_ne_true] at p5 ⊢
      exact ⟨acc, m5, G5, ((g2.trans g3).trans f4).trans f5, by omega, p5⟩
    | true =>
      rw [if_pos rfl] at p5 ⊢
      intro s H0 C cl fp
      refine p5 s H0 C cl fp σ4 G5 H5 (e4.mono g5.g) g5.wd _ fun v d6 m6 G6 H6 g6 r6 ⟨d', e6, p6⟩ => ?_
      subst e6
      have f6 := Gr.frame (fr := [(Dl, .dl acc)]) f5.wd g6
      obtain ⟨vs, h1, h2⟩ := own_get f6.wd List.mem_cons_self
      have hlen := dpa_length h2
      have r7 : Dp X.K G6 v d' := by
        cases r6 with
        | py z => exact z
      have g7 := Gr.set (o := .lst (vs ++ [v])) (v := .dl (acc ++ [d'])) f6.wd List.mem_cons_self ⟨_, rfl, dpa_append h2 (.cons r7 .nil)⟩
      have em : mset ([(Dl, OV.dl acc)] ++ m6) Dl (.dl (acc ++ [d'])) = (Dl, .dl (acc ++ [d'])) :: m6 := by
        have nd := f6.wd.nd
        unfold ad at nd
        rw [List.singleton_append, List.map_cons, List.nodup_cons] at nd
        show (if Dl = Dl then (Dl, OV.dl (acc ++ [d'])) else (Dl, OV.dl acc)) :: m6.map _ = _
        rw [if_pos rfl]
        congr 1
        refine (List.map_congr_left fun q hq => ?_).trans (List.map_id _)
        have ne : q.1 ≠ Dl := fun z => nd.1 (List.mem_map.mpr ⟨q, hq, z⟩)
        rw [if_neg ne]
        rfl
      rw [em] at g7
      refine ⟨vs, h1, by have := sizeLine_eq; omega, acc ++ [d'], m6, G6, ((((g2.trans g3).trans f4).trans f5).trans f6).trans g7, by rw [List.length_append]; show acc.length + 1 ≤ i + 1; omega, p6⟩
  · have e : i = xs.length := by omega
    subst e
    have g3 := Gr.seal g2.wd (own_get g2.wd List.mem_cons_self).choose_spec.1
    refine .inl ⟨stop H' (g2.g.trans g2.wd.w), q _ acc m' _ H' ((g1.trans g2).trans g3) ?_ (fin _ _ hacc iv)⟩
    have z := (own_get g2.wd List.mem_cons_self).choose_spec
    exact .py (.lst (SqL.of upd_same) (dpa_mono g3.g z.2))
/-- [elt for tg in iter if ..] -/
theorem we_lc {elt iter : Expr} {ifs : List Expr} {scope : Scope} {P : SD → MS → Prop} (own : List (Str × Nat)) (hN : X.N.Nodup)
    (h : WI X tg iter ds m fun xs m1 => xs.length ≤ 1000000 ∧ ∃ Iv : Nat → List PyData → MS → Prop, Iv 0 [] m1 ∧
      (∀ i x acc m', xs[i]? = some x → acc.length ≤ i → Iv i acc m' → LcTurn X scope tg elt ifs (own.map (·.2)) x ds m' (fun d m4 => Iv (i + 1) (acc ++ [d]) m4) (fun m4 => Iv (i + 1) acc m4)) ∧ ∀ acc m', acc.length ≤ xs.length → Iv xs.length acc m' → P (Ls acc) m')
    (ok : BlkOk X.N X.env.scope scope own) (hc : X.calm = true := by rfl) (hs : ∀ x, foldedSetIterable iter X.env x = pure x := by intro _; rfl) : WE X (.ListComp elt [⟨tg, iter, ifs, 0⟩] scope pos) ds m P := fun σ G H e0 w Q q =>
  oE (pe_lc (own := own) hc hN (pI tg iter) ok (fun s H C cl fp => ⟨fun pins s' σ H' v u Q I r h => h s H C cl fp pins s' u I r⟩) (fun s H C cl fp => ⟨fun pins s' σ H' Q I h => h s H C cl fp pins s' I⟩) (fun s H C cl fp => ⟨fun pins s' σ H' Q I h => h s H C cl fp pins s' I⟩) hs)
    (lc_read (P := fun acc m' => P (Ls acc) m') e0 w h fun v acc m' G' H' g r p => q v _ m' G' H' g r p)
/-- y = [..] -/
theorem ws_setLc {elt iter : Expr} {ifs : List Expr} {scope : Scope} {i : Nat} {y : Str} {py spos : Pos} {E : ED} (own : List (Str × Nat)) (hN : X.N.Nodup)
    (h : WI X tg iter ds m fun xs m1 => xs.length ≤ 1000000 ∧ ∃ Iv : Nat → List PyData → MS → Prop, Iv 0 [] m1 ∧
      (∀ i x acc m', xs[i]? = some x → acc.length ≤ i → Iv i acc m' → LcTurn X scope tg elt ifs (own.map (·.2)) x ds m' (fun d m4 => Iv (i + 1) (acc ++ [d]) m4) (fun m4 => Iv (i + 1) acc m4)) ∧ ∀ acc m', acc.length ≤ xs.length → Iv xs.length acc m' → E.nx (ds.set i (some (Ls acc))) m')
    (ok : BlkOk X.N X.env.scope scope own) (hsw : swapsWith (.ListComp elt [⟨tg, iter, ifs, 0⟩] scope pos) (some (.Name y py)) spos.line X.env = pure true) (hi : X.N[i]? = some y := by rfl) (hyl : X.env.scope.names.lookup y = some .local := by rfl)
    (hc : X.calm = true := by rfl) (hs : ∀ x, foldedSetIterable iter X.env x = pure x := by intro _; rfl) : WS X (.Assign [.Name y py] (.ListComp elt [⟨tg, iter, ifs, 0⟩] scope pos) spos) ds m E := fun σ G H e0 w D k =>
  oS (ps_setLc (own := own) hc hN hi hyl hsw (pI tg iter) ok (fun s H C cl fp => ⟨fun pins s' σ H' v u Q I r h => h s H C cl fp pins s' u I r⟩) (fun s H C cl fp => ⟨fun pins s' σ H' Q I h => h s H C cl fp pins s' I⟩) (fun s H C cl fp => ⟨fun pins s' σ H' Q I h => h s H C cl fp pins s' I⟩) hs)
    (lc_read (P := fun acc m' => E.nx (ds.set i (some (Ls acc))) m') e0 w h fun v acc m' G' H' g r p => k.nx _ _ m' G' H' g ((e0.mono g.g).set r) p)
end
end W9
namespace W9
open PySem PySem.Spec PyProof.Rows L2
/-! ### defs, where nothing is being shown by repr around -/
structure Rm (k : Nat) (A : Around) : Prop where
  r : Room k A
  g : A.guards = some []
theorem Rm.mono {j k : Nat} {A : Around} (h : Rm k A) (l : j ≤ k) : Rm j A := ⟨h.r.mono l, h.g⟩
structure FnG (P : Program) (w : World) (K : PySem.W.Frag) (mg : Str → Option Value) (base : Heap) (CX : CXT) (k : Nat) (f : Addr) (fd : FuncData) (ps : List Str) (sp : Sp) : Prop where
  len : ∀ vs H Q E, sp vs H Q E → vs.length = ps.length
  go : ∀ A outer s H args us vs Q E, Rm k A → Env0 P w K mg base A outer s H → BindsTo s fd args (ps.zip us) → Vals vs us → sp vs H Q E → codeAny (model P w) A (.call (.ref f) args) (CR CX outer P w H s Q E) s
theorem FnG.mono {P : Program} {w : World} {K : PySem.W.Frag} {mg : Str → Option Value} {base : Heap} {CX : CXT} {j k : Nat} {f : Addr} {fd : FuncData} {ps : List Str} {sp : Sp} (F : FnG P w K mg base CX j f fd ps sp) (h : j ≤ k) : FnG P w K mg base CX k f fd ps sp :=
  ⟨F.len, fun A outer s H args us vs Q E r => F.go A outer s H args us vs Q E (r.mono h)⟩
/-- the context of a def's body; no exception leaves it -/
def bX (P : Program) (w : World) (K : PySem.W.Frag) (mg : Str → Option Value) (base : Heap) (N : List Str) (qual : Str) (scope : Scope) (f : Addr) (cd : Value) (A : Around) (outer : List Env) (s : Shared) (H : Hp) (E : XK) : Cx :=
  (cxOf CX0 P w K mg base N qual scope f cd A outer s H E).nox
def startD (N : List Str) (xs : List SD) : DE := xs.map some ++ List.replicate (N.length - xs.length) none
theorem env_start {K : PySem.W.Frag} {G : Hp} {N : List Str} {vs : List V} {xs : List SD} (r : DSs K G vs xs) : EnvD K G (L2.start N vs) (startD N xs) := by
  have hl := r.length
  refine ⟨by unfold L2.start startD; rw [List.length_append, List.length_append, List.length_map, List.length_map, List.length_replicate, List.length_replicate, hl], fun i d h => ?_⟩
  unfold startD at h
  unfold L2.start
  by_cases hi : i < xs.length
  · rw [List.getElem?_append_left (by rw [List.length_map]; exact hi), List.getElem?_map] at h
    rw [List.getElem?_append_left (by rw [List.length_map, hl]; exact hi), List.getElem?_map]
    have get : ∀ {vs : List V} {xs : List SD} {i : Nat} {d : SD}, DSs K G vs xs → xs[i]? = some d → ∃ v, vs[i]? = some v ∧ DS K G v d := by
      intro vs xs i d r
      induction r generalizing i with
      | nil => intro e; simp at e
      | cons a b ih =>
        intro e
        cases i with
        | zero => simp at e; subst e; exact ⟨_, rfl, a⟩
        | succ i => exact ih (i := i) (by simpa using e)
    cases e : xs[i]? with
    | none => rw [e] at h; cases h
    | some d' =>
      rw [e] at h
      cases h
      obtain ⟨v, h1, h2⟩ := get r e
      exact ⟨v, by rw [h1]; rfl, h2⟩
  · rw [List.getElem?_append_right (by rw [List.length_map]; omega), List.getElem?_replicate] at h
    split at h <;> cases h
theorem fnD_ok {P : Program} {w : World} {K : PySem.W.Frag} {mg : Str → Option Value} {base : Heap} {x qual : Str} {st : Stmt} {f : Addr} {fd : FuncData} {N ps : List Str} {k : Nat} {FF : FT} (F : Fun K x qual st f fd) (S : FnScope N ps (defScope st))
    (hlen : ∀ xs m Pp, FF xs m Pp → xs.length = ps.length)
    (hbody : ∀ cdv A outer s H E, Rm k (bX P w K mg base N qual (defScope st) f cdv A outer s H E).A → ∀ xs m Pp, FF xs m Pp →
      WSs (bX P w K mg base N qual (defScope st) f cdv A outer s H E) (defBody st) (startD N xs) m ⟨fun _ m => Pp N0 m, Pp, fun _ _ => False, fun _ _ => False⟩) : FnG P w K mg base CX0 (k + 1) f fd ps (SpD K FF) := by
  obtain ⟨oc, od, kV, doc, pm, an, cdv, ct, osl, rfl, lk, hcd⟩ := F.ex
  have len : ∀ vs H Q E, SpD K FF vs H Q E → vs.length = ps.length := fun vs H Q E ⟨G, m, ds, Pp, _, r, hF, _⟩ => by rw [r.length, hlen _ _ _ hF]
  refine ⟨len, fun A outer s H args us vs Q E rm e0 hb rv hsp => ?_⟩
  have kin := e0.mod.kin.keeps fun b o e => (e0.bs b o e).1
  have kinds : ∀ y ∈ ps.zip us, (defScope st).names.lookup y.1 = some .local ∨ ((defScope st).names.lookup y.1 = some .cell ∧ ((cellsFrom (s.heap.objs.size + 1) (defScope st).names []).lookup y.1).isSome = true) := by
    rintro ⟨n, v⟩ hy
    exact (S.par n (List.of_mem_zip hy).1).imp id fun q => ⟨q, PySem.W.cellsFrom_some _ _ _ (.inl q)⟩
  have rm' : Rm k (bX P w K mg base N qual (defScope st) f cdv A outer s H E).A := ⟨rm.r.deeper _, rm.g⟩
  obtain ⟨G, m, ds, Pp, wd, rd, hF, post⟩ := id hsp
  refine codeAny_call_function rm.r.depth (kin _ _ lk) rfl S.co S.gen rfl (PySem.W.codeRec_of kin hcd) (hb _ _ _ _ (wpAny_newFunctionEnv_cells S.kind kinds ?_))
  rintro env rfl s1 ic
  refine ⟨(e0.mod.nolimit.keeps fun b o e => (e0.bs b o e).1).keeps ic.toInCall.keep, codeAny_func ?_⟩
  have J := (inv_start (CX := CX0) (E := E) S rm.r.hd e0 (len _ _ _ _ hsp) rv ic).wish fun _ _ => False
  have body := hbody cdv A outer s H E rm' ds m Pp hF (L2.start N vs) G H (env_start rd) wd { nx := fun _ H' => Q .non H', rt := Q, bk := fun _ _ => False, ct := fun _ _ => False }
    ⟨fun σ' ds' m' G' H' g _ p => post _ _ _ _ _ g (.py .non) p, fun v d m' G' H' g r p => post _ _ _ _ _ g r p, fun _ _ _ _ _ _ _ p => p, fun _ _ _ _ _ _ _ p => p⟩
  refine wpAny_mono (body [] s1 J) (fun fl s' hs => ?_) fun _ _ z => False.elim z
  cases fl with
  | next => obtain ⟨σ', H', J', q⟩ := hs; exact ⟨.non, H', J'.os, J'.bare, J'.base, J'.hok, rfl, q⟩
  | ret u => obtain ⟨v, σ', H', J', r', q⟩ := hs; exact ⟨v, H', J'.os, J'.bare, J'.base, J'.hok, r', q⟩
  | brk => obtain ⟨_, _, _, z⟩ := hs; exact z.elim
  | cont => obtain ⟨_, _, _, z⟩ := hs; exact z.elim

section
variable {X : Cx} {ds : DE} {m : MS} {e : Expr} {es : List Expr} {pos : Pos} {k : Nat} {f : Addr} {fd : FuncData} {ps : List Str} {F : FT} {x : Str} {p : Pos}
/-- what a call of a def comes to, by values -/
theorem run_fnG {CX : CXT} {sp : Sp} {E : XK} {pins : List (Addr × Obj)} {σ : L2.St} {H : Hp} {s : Shared} {Q : VK} {args : Args} {us : List Value} {vs : List V} (FO : FnG X.prog X.w X.K X.mg X.base CX k f fd ps sp) (hr : Rm k X.A) (hb : BindsTo s fd args (ps.zip us)) (hx : Passes CX X E)
    (J : Inv X pins σ H s) (r : Vals vs us) (h : sp vs H Q E) : codeAny (model X.prog X.w) X.A (.call (.ref f) args) (fun r s' => match r with | .ok (.ret u) => EP X pins σ Q u s' | .ok _ => False | .error e => X.xe e s') s := by
  refine codeAny_mono (FO.go X.A X.stack s H args us vs Q E hr J.env0 hb r h) fun rr s' hq => ?_
  match rr, hq with
  | .error e, hq => exact hx pins σ H s e s' J hq
  | .ok (.ret u), hq => exact J.after hq
  | .ok .next, hq => exact hq
  | .ok .brk, hq => exact hq
  | .ok .cont, hq => exact hq
theorem wg_call {P : SD → MS → Prop} (FO : FnG X.prog X.w X.K X.mg X.base CX0 k f fd ps (SpD X.K F)) (hr : Rm k X.A) (hm : X.mg x = some (.ref f)) (hk : PySem.W.keepIn X.K (.ref f) = true) (hb : Binds X.K fd ps [])
    (h : WA X (e :: es) ds m fun xs m1 => ∃ fr mc, m1 = fr ++ mc ∧ F xs mc fun d m2 => P d (fr ++ m2)) (hg : Gl X x := by rfl) (hdb : (x == ("__debug__" : Str)) = false := by decide)
    (he : starEach (e :: es) X.env = (false, eval e X.env) :: starEach es X.env := by rfl) (hpl : (backTo pos (starEach es X.env)).any (·.1) = false := by rfl) : WE X (.Call (.Name x p) (e :: es) [] pos) ds m P := fun σ G H E w Q q => by
  intro pins s J
  refine wpAny_Call_Name_kw (ld_glob J hg hm ?_ hdb)
  refine PySem.W.callWith_K (h₀ := X.base) J.ok.mod.kin hk (thn (h σ G H E w (fun vs H1 => SpD X.K F vs H1 Q E0) (fun vs xs m1 G1 H1 g1 r1 ⟨fr, mc, e1, hF⟩ => ?_) pos pins s J) fun us s1 ⟨vs, H1, J1, r, hsp⟩ => ⟨J1.kIn, ?_⟩) he hpl
  · subst e1
    exact ⟨G1, mc, xs, _, g1.wd.sub, r1, hF, fun v d m' G' H' g2 r2 p => q v d _ G' H' (g1.trans (Gr.frame g1.wd g2)) r2 p⟩
  · have hl : us.length = ps.length := by rw [← r.length]; exact FO.len _ _ _ _ hsp
    have b0 := hb s1 us J1.kIn (by rw [List.append_nil]; exact hl)
    rw [List.append_nil] at b0
    exact wpAny_call (codeAny_mono (run_fnG FO hr b0 pass0 J1 r hsp) fun rr s' hq => by
      match rr, hq with
      | .error e, hq => exact hq
      | .ok (.ret u), hq => exact hq
      | .ok .next, hq => exact hq.elim
      | .ok .brk, hq => exact hq.elim
      | .ok .cont, hq => exact hq.elim)
theorem eg_call {R : List SD → SD → Prop} {xs : List SD} {z : SD} (FO : FnG X.prog X.w X.K X.mg X.base CX0 k f fd ps (SpD X.K (pureF R))) (hr : Rm k X.A) (hm : X.mg x = some (.ref f)) (hk : PySem.W.keepIn X.K (.ref f) = true) (hb : Binds X.K fd ps [])
    (h : EA X (e :: es) ds xs) (hz : R xs z) (hg : Gl X x := by rfl) (hdb : (x == ("__debug__" : Str)) = false := by decide)
    (he : starEach (e :: es) X.env = (false, eval e X.env) :: starEach es X.env := by rfl) (hpl : (backTo pos (starEach es X.env)).any (·.1) = false := by rfl) : EE X (.Call (.Name x p) (e :: es) [] pos) ds z := fun m =>
  wg_call FO hr hm hk hb (h.to ⟨m, [], (List.append_nil m).symm, z, hz, rfl, List.append_nil m⟩) hg hdb he hpl
/-- f() -/
theorem eg_call0 {R : List SD → SD → Prop} {z : SD} (FO : FnG X.prog X.w X.K X.mg X.base CX0 k f fd [] (SpD X.K (pureF R))) (hr : Rm k X.A) (hm : X.mg x = some (.ref f)) (hk : PySem.W.keepIn X.K (.ref f) = true) (hb : Binds X.K fd [] [])
    (hz : R [] z) (hg : Gl X x := by rfl) (hdb : (x == ("__debug__" : Str)) = false := by decide) : EE X (.Call (.Name x p) [] [] pos) ds z := fun m σ G H E w Q q => by
  intro pins s J
  refine wpAny_Call_Name_kw (ld_glob J hg hm ?_ hdb)
  refine PySem.W.callWith_K0 J.kIn hk (wpAny_call (codeAny_mono (run_fnG (vs := []) (us := []) (Q := Q) FO hr (hb s [] J.kIn rfl) pass0 J .nil ⟨G, [], [], (fun d m' => d = z ∧ m' = []), ⟨w.w, fun _ h => (nomatch h), List.nodup_nil⟩, .nil, ⟨z, hz, rfl, rfl⟩, fun v d m' G' H' g2 r2 ⟨e1, e2⟩ => ?_⟩) fun rr s' hq => by
      match rr, hq with
      | .error e, hq => exact hq
      | .ok (.ret u), hq => exact hq
      | .ok .next, hq => exact hq.elim
      | .ok .brk, hq => exact hq.elim
      | .ok .cont, hq => exact hq.elim))
  subst e1 e2
  have g3 := Gr.frame (fr := m) (by rw [List.append_nil]; exact w) g2
  rw [List.append_nil] at g3
  exact q v d m G' H' g3 r2 ⟨rfl, rfl⟩
/-- the keywords' values -/
def EK (X : Cx) (kws : List Keyword) (ds : DE) (xs : List SD) : Prop := ∀ m σ G H, EnvD X.K G σ ds → Wd X.K m G H → ∀ Q : List V → Hp → Prop, (∀ vs G' H', Gr X.K m m G H G' H' → DSs X.K G' vs xs → Q vs H') →
  ∀ (pos : Pos) pins s, Inv X pins σ H s → wpAny (model X.prog X.w) X.A (evalAll ((backToKw pos (keywordEach kws X.env)).map (·.2))) (AP X pins σ Q) X.xe s
theorem ek_nil : EK X [] ds [] := fun m σ G H E w Q q pos pins s J => pk_nil.run pos pins s σ H Q J (q _ _ _ (.refl w) .nil)
theorem ek_cons {nm : Option Str} {kpos : Pos} {kws : List Keyword} {d : SD} {xs : List SD} (h : EE X e ds d) (h2 : EK X kws ds xs) : EK X (⟨nm, e, kpos⟩ :: kws) ds (d :: xs) := fun m σ G H E w Q q pos pins s J => by
  have p : PK X kws (fun σ H Q => ∀ (pos : Pos) pins s, Inv X pins σ H s → wpAny (model X.prog X.w) X.A (evalAll ((backToKw pos (keywordEach kws X.env)).map (·.2))) (AP X pins σ Q) X.xe s) := ⟨fun pos pins s σ H Q J h => h pos pins s J⟩
  refine (pk_cons (pE e) p).run pos pins s σ H Q J (h m σ G H E w _ fun v d' m1 G1 H1 g1 r1 ⟨e1, e2⟩ => ?_)
  subst e1 e2
  exact h2 m1 σ G1 H1 (E.mono g1.g) g1.wd _ fun vs G2 H2 g2 r2 => q _ _ _ (g1.trans g2) (.cons (ds_mono g2.g r1) r2)
/-- f(k = e, ..): all by keywords; gU, gV, gD bring them to the parameters' sequence -/
theorem eg_callK {kws : List Keyword} {ks : List Str} {gU : List Value → List Value} {gV : List V → List V} {R : List SD → SD → Prop} {z : SD} {xs ys : List SD} (FO : FnG X.prog X.w X.K X.mg X.base CX0 k f fd ps (SpD X.K (pureF R))) (hr : Rm k X.A) (hm : X.mg x = some (.ref f)) (hk : PySem.W.keepIn X.K (.ref f) = true)
    (hb : ∀ (s : Shared) (us : List Value), X.K.In s.heap → us.length = ks.length → BindsTo s fd ⟨[], ks.zip us⟩ (ps.zip (gU us))) (hl : xs.length = ks.length) (hV : ∀ vs us, Vals vs us → Vals (gV vs) (gU us)) (hD : ∀ G vs, DSs X.K G vs xs → DSs X.K G (gV vs) ys)
    (h : EK X kws ds xs) (hz : R ys z) (hg : Gl X x := by rfl) (hall : (backToKw pos (keywordEach kws X.env)).all (·.1.isSome) = true := by rfl) (hks : (backToKw pos (keywordEach kws X.env)).filterMap (·.1) = ks := by rfl) (hdb : (x == ("__debug__" : Str)) = false := by decide)
    (hpl : ((backTo pos (starEach [] X.env)).any (·.1) || (backToKw pos (keywordEach kws X.env)).any (·.1.isNone)) = false := by rfl) : EE X (.Call (.Name x p) [] kws pos) ds z := fun m σ G H E w Q q => by
  intro pins s J
  refine wpAny_Call_Name_kw (ld_glob J hg hm ?_ hdb)
  refine PySem.W.callWith_KW0 (h₀ := X.base) J.ok.mod.kin hk hall ?_ hpl
  refine thn (h m σ G H E w (fun vs H1 => vs.length = ks.length ∧ SpD X.K (pureF R) (gV vs) H1 Q E0) (fun vs G1 H1 g1 r1 => ⟨by rw [r1.length, hl], ?_⟩) pos pins s J) fun us s1 ⟨vs, H1, J1, r, hn, hsp⟩ => ⟨J1.kIn, ?_⟩
  · refine ⟨G1, [], ys, (fun d m' => d = z ∧ m' = []), ⟨g1.wd.w, fun _ h => (nomatch h), List.nodup_nil⟩, hD _ _ r1, ⟨z, hz, rfl, rfl⟩, fun v d m' G' H' g2 r2 ⟨e1, e2⟩ => ?_⟩
    subst e1 e2
    have g3 := Gr.frame (fr := m) (by rw [List.append_nil]; exact g1.wd) g2
    rw [List.append_nil] at g3
    exact q v d m G' H' (g1.trans g3) r2 ⟨rfl, rfl⟩
  · rw [hks, List.nil_append]
    exact wpAny_call (codeAny_mono (run_fnG FO hr (hb s1 us J1.kIn (by rw [← r.length]; exact hn)) pass0 J1 (hV _ _ r) hsp) fun rr s' hq => by
      match rr, hq with
      | .error e, hq => exact hq
      | .ok (.ret u), hq => exact hq
      | .ok .next, hq => exact hq.elim
      | .ok .brk, hq => exact hq.elim
      | .ok .cont, hq => exact hq.elim)
end

/-! ### repr of plain data -/
section
variable {X : Cx} {ds : DE} {m : MS} {e : Expr} {pos p : Pos}
theorem depth_le (d : PyData) : True := trivial
theorem call_repr_py (hg : X.A.guards = some []) {d : PyData} (hu : X.A.units + 64 < cLine) (hd : d.depth ≤ 50) (hs : d.showable = true) (hn : d.hasDict = false) (hz : d.shown.length ≤ sizeLine) :
    CallR X (.builtin "repr") (fun vs H Q => ∃ v, vs = [v] ∧ Dp X.K H v d ∧ Q (.str d.shown) H) := fun pins s σ H vs us Q J r ⟨v, e1, h, q⟩ => by
  subst e1
  obtain ⟨u, rfl, ru⟩ := r.one
  obtain ⟨as, rd⟩ := Dp.reads J d v u h ru
  have fin : ∀ (h' : Heap) (tk0 tk : Nat), (∀ b o, s.heap.get? b = some o → h'.get? b = some o) → EP X pins σ Q (.str d.shown tk0) { s with heap := h', toks := tk } := fun h' u' tk hk => ⟨.str d.shown, H, J.kept hk, ⟨_, rfl⟩, q⟩
  cases v with
  | ref a =>
    obtain rfl : u = .ref a := ru
    exact repr_of_reads' (h₀ := s.heap) rd hs (fun z => by rw [hn] at z; cases z) hg (by omega) (fun _ _ e => e) (fun h' u' tk hk => fin h' u' tk hk) hz
  | int i =>
    cases h
    obtain ⟨t, rfl⟩ := ru
    exact PySem.P.repr_of_int (by simpa [PyData.showable] using hs) (fin s.heap _ _ fun _ _ e => e)
  | str x =>
    cases h
    obtain ⟨t, rfl⟩ := ru
    exact PySem.P.repr_of_str (fin s.heap _ _ fun _ _ e => e) hz
  | bl b =>
    cases h
    obtain rfl : u = .bool b := ru
    exact PySem.P.repr_of_bool (fin s.heap _ _ fun _ _ e => e)
  | non =>
    cases h
    obtain rfl : u = .none := ru
    exact PySem.P.repr_of_none (fin s.heap _ _ fun _ _ e => e)
  | _ => cases h
theorem ee_repr {d : PyData} (h : EE X e ds (.py d)) (hr : Rm 0 X.A) (hd : d.depth ≤ 50) (hs : d.showable = true) (hn : d.hasDict = false) (hz : d.shown.length ≤ sizeLine) (hm : X.mg "repr" = none) (hg : Gl X "repr" := by rfl) (he : starEach (e :: []) X.env = (false, eval e X.env) :: starEach [] X.env := by rfl) (hpl : (backTo pos (starEach [] X.env)).any (·.1) = false := by rfl) :
    EE X (.Call (.Name "repr" p) [e] [] pos) ds (.py (.str d.shown)) :=
  ee_callB (ea_cons h ea_nil he) (fun m => ⟨_, call_repr_py hr.g (by have := hr.r.un; omega) hd hs hn hz, fun G H vs w r Q q => by
    cases r with
    | cons r1 r2 =>
      cases r2
      cases r1 with
      | py r1 => exact ⟨_, rfl, dp_mono w.w r1, q _ _ _ (.refl w) (.py (.str _))⟩⟩) hm (by decide +kernel) hg (by decide) (by decide) he hpl
end
end W9
namespace W9
open PySem PySem.Spec PyProof.Rows L2
/-! ### texts as lists of numbers -/
theorem str_len (l : List Nat) : (⟨l.toArray⟩ : Str).length = l.length := by show l.toArray.size = _; exact List.size_toArray ..
theorem str_app (a b : List Nat) : (⟨a.toArray⟩ : Str) ++ (⟨b.toArray⟩ : Str) = ⟨(a ++ b).toArray⟩ := by
  show (⟨a.toArray ++ b.toArray⟩ : Str) = _
  rw [List.append_toArray]
theorem str_inj {a b : List Nat} : ((⟨a.toArray⟩ : Str) = ⟨b.toArray⟩) ↔ a = b := ⟨fun h => by
  have h := congrArg (fun s => s.cps.toList) h
  simpa using h, fun h => by rw [h]⟩
theorem S_inj {a b : List Nat} : (S a = S b) ↔ a = b := ⟨fun h => by
  injection h with h
  injection h with h
  exact str_inj.mp h, fun h => by rw [h]⟩
theorem line_of {n : Nat} (h : n ≤ 1000000) : n ≤ sizeLine := Nat.le_trans h (by decide)
theorem line_lt {n : Nat} (h : n ≤ 1000000) : n < sizeLine := Nat.lt_of_le_of_lt h (by decide)

section
variable {X : Cx} {m : MS}
/-! ### operators -/
theorem b_int {op : Operator} {C : Int → Int → Prop} {g : Int → Int → Int} (ho : OpR X (binaryOp op) (rI C fun i j => .int (g i j))) {i j : Int} (hc : C i j) : BinD X op (I i) (I j) (I (g i j)) := ⟨_, ho, fun m G H v u w r1 r2 Q q => by
  cases ds_int r1
  cases ds_int r2
  exact ⟨i, j, rfl, rfl, hc, q _ _ _ (.refl w) (.py (.int _))⟩⟩
theorem b_int0 {op : Operator} {g : Int → Int → Int} (ho : OpR X (binaryOp op) (rI0 fun i j => .int (g i j))) {i j : Int} : BinD X op (I i) (I j) (I (g i j)) := ⟨_, ho, fun m G H v u w r1 r2 Q q => by
  cases ds_int r1
  cases ds_int r2
  exact ⟨i, j, rfl, rfl, q _ _ _ (.refl w) (.py (.int _))⟩⟩
theorem bd_add {i j : Int} : BinD X .Add (I i) (I j) (I (i + j)) := b_int0 op_add
theorem bd_sub {i j : Int} : BinD X .Sub (I i) (I j) (I (i - j)) := b_int0 op_sub
theorem bd_mul {i j : Int} (h : (-(2 ^ 64) < i ∧ i < 2 ^ 64) ∨ (-(2 ^ 64) < j ∧ j < 2 ^ 64)) : BinD X .Mult (I i) (I j) (I (i * j)) := b_int op_mul h
theorem bd_mod {i j : Int} (h : 0 < j) : BinD X .Mod (I i) (I j) (I (i % j)) := b_int op_mod h
theorem bd_div {i j : Int} (h : 0 < j ∧ j < 1073741824) : BinD X .FloorDiv (I i) (I j) (I (i / j)) := b_int op_fdiv h
theorem bd_pow {i j : Int} (h : 0 ≤ j ∧ j ≤ 1000000 ∧ i.natAbs < 2 ^ 64) : BinD X .Pow (I i) (I j) (I (i ^ j.toNat)) := b_int op_pow h
theorem op_powX : OpR X (binaryOp .Pow) (rI (fun i j => 0 ≤ j ∧ (Builtin.Int.intBits i : Int) * j ≤ 2 ^ 27) fun i j => .int (i ^ j.toNat)) := fun pins s σ H x y v u Q J rx ry ⟨i, j, e1, e2, ⟨h1, h2⟩, q⟩ => by
  subst e1 e2
  obtain ⟨t, rfl⟩ := rx
  obtain ⟨t', rfl⟩ := ry
  exact PyProof.Rows.pow_int h1 h2 ⟨.int _, H, J.tok _, ⟨_, rfl⟩, q⟩
theorem bd_powX {i j : Int} (h : 0 ≤ j ∧ (Builtin.Int.intBits i : Int) * j ≤ 2 ^ 27) : BinD X .Pow (I i) (I j) (I (i ^ j.toNat)) := b_int op_powX h
theorem bd_addS {a b : List Nat} (h : a.length + b.length ≤ 1000000) : BinD X .Add (S a) (S b) (S (a ++ b)) := ⟨_, op_add_str, fun m G H v u w r1 r2 Q q => by
  cases ds_str r1
  cases ds_str r2
  refine ⟨_, _, rfl, rfl, by rw [str_len, str_len]; exact line_of h, ?_⟩
  rw [str_app]
  exact q _ _ _ (.refl w) (.py (.str _))⟩
/-- a text said n times -/
def rep (n : Nat) (l : List Nat) : List Nat := (List.replicate n l).flatten
theorem rep_length (n : Nat) (l : List Nat) : (rep n l).length = n * l.length := by
  unfold rep
  induction n with
  | zero => simp
  | succ n ih => rw [List.replicate_succ, List.flatten_cons, List.length_append, ih, Nat.succ_mul]; omega
theorem fold_app (c : Array Nat) : ∀ (n : Nat) (acc : Array Nat), (List.replicate n c).foldl (· ++ ·) acc = acc ++ ((List.replicate n c.toList).flatten).toArray
  | 0, acc => by simp
  | n + 1, acc => by
    rw [List.replicate_succ, List.foldl_cons, fold_app c n, List.replicate_succ, List.flatten_cons]
    apply Array.ext'
    simp
theorem txt_mul (l : List Nat) (n : Int) : Txt.mul ⟨l.toArray⟩ n = ⟨(rep n.toNat l).toArray⟩ := by
  unfold Txt.mul
  by_cases h : n < 1
  · rw [if_pos h]
    have e : n.toNat = 0 := by omega
    rw [e]
    rfl
  · rw [if_neg h]
    by_cases h2 : (n == 1 || (⟨l.toArray⟩ : Str).length == 0) = true
    · rw [if_pos h2]
      rw [str_len] at h2
      simp only [Bool.or_eq_true, beq_iff_eq] at h2
      rcases h2 with h2 | h2
      · subst h2
        unfold rep
        simp
      · have e : l = [] := List.length_eq_zero_iff.mp h2
        subst e
        unfold rep
        simp
    · rw [if_neg h2, fold_app]
      unfold rep
      simp
theorem op_mulS : OpR X (binaryOp .Mult) (fun x y H Q => ∃ (l : List Nat) (n : Int), x = .str ⟨l.toArray⟩ ∧ y = .int n ∧ n ≤ 1000000 ∧ -1000000 ≤ n ∧ l.length * n.toNat ≤ 1000000 ∧ Q (.str ⟨(rep n.toNat l).toArray⟩) H) := fun pins s σ H x y v u Q J rx ry ⟨l, n, e1, e2, hn, hn2, hz, q⟩ => by
  subst e1 e2
  obtain ⟨t, rfl⟩ := rx
  obtain ⟨t', rfl⟩ := ry
  refine SB.mul ⟨?_, fun h1 h2 => ?_, fun h1 h2 => ?_⟩ fun t' k => ?_
  · simp only [Bool.or_eq_false_iff, decide_eq_false_iff_not]
    omega
  · rw [str_len]
    have h3 : (l.length : Int) ≤ 1000000 := by
      have h4 : l.length * 1 ≤ l.length * n.toNat := Nat.mul_le_mul_left _ (by omega)
      omega
    have h5 : (1000000 : Int) ≤ (2 ^ 63 - 1) / n := by
      rw [Int.le_ediv_iff_mul_le (by omega)]
      have : (1000000 : Int) * n ≤ 1000000 * 1000000 := Int.mul_le_mul_of_nonneg_left hn (by omega)
      omega
    omega
  · unfold Builtin.Str.tooLong
    rw [str_len]
    have := line_of hz
    simp only [decide_eq_false_iff_not]
    omega
  · rw [txt_mul]
    exact ⟨.str _, H, J.tok _, ⟨_, rfl⟩, q⟩
theorem bd_mulS {l : List Nat} {n : Int} (h : n ≤ 1000000 ∧ -1000000 ≤ n ∧ l.length * n.toNat ≤ 1000000) : BinD X .Mult (S l) (I n) (S (rep n.toNat l)) := ⟨_, op_mulS, fun m G H v u w r1 r2 Q q => by
  cases ds_str r1
  cases ds_int r2
  exact ⟨l, n, rfl, rfl, h.1, h.2.1, h.2.2, q _ _ _ (.refl w) (.py (.str _))⟩⟩
theorem op_catD : OpR X (binaryOp .Add) (fun x y H Q => ∃ a b xs ys, x = .ref a ∧ y = .ref b ∧ SqL X.K H a xs ∧ SqL X.K H b ys ∧ xs.length + ys.length ≤ 1000000 ∧ ∀ p, H p = none → Q (.ref p) (upd H p (.lst (xs ++ ys)))) := fun pins s σ H x y v u Q J rx ry ⟨a, b, xs, ys, e1, e2, h1, h2, hz, q⟩ => by
  subst e1 e2
  obtain rfl : v = .ref a := rx
  obtain rfl : u = .ref b := ry
  obtain ⟨its, r1, ⟨o1, n1, g1, c1, d1, e1⟩, z1⟩ := J.list h1
  obtain ⟨its2, r2, ⟨o2, n2, g2, c2, d2, e2⟩, z2⟩ := J.list h2
  obtain ⟨cl1, di1, da1, sl1⟩ := o1
  obtain ⟨cl2, di2, da2, sl2⟩ := o2
  obtain ⟨rfl, rfl, rfl⟩ : cl1 = .type "list" ∧ di1 = none ∧ da1 = .seq its.toArray n1 := ⟨c1, d1, e1⟩
  obtain ⟨rfl, rfl, rfl⟩ : cl2 = .type "list" ∧ di2 = none ∧ da2 = .seq its2.toArray n2 := ⟨c2, d2, e2⟩
  have hl : its.length + its2.length ≤ sizeLine := by rw [← r1.length, ← r2.length]; exact line_of hz
  have M := list_addW a b its.toArray its2.toArray n1 n2 none none sl1 sl2 (by simpa using hl)
  refine concat_meets (T := "list") ⟨_, g1, rfl⟩ ⟨_, g2, rfl⟩ noFill_list_add seq_list_add PySem.F.slot_list_add PySem.F.entry_list_add (PySem.F.args_list_add_2 _ _) M ⟨g1, g2, ?_⟩
  have e : its.toArray ++ its2.toArray = (its ++ its2).toArray := by simp
  rw [e]
  exact ⟨.ref _, _, J.lnew (t' := s.toks) (r1.append r2) (by rw [List.length_append]; exact line_of hz), rfl, q _ J.fresh⟩
theorem bd_catL {a b : List PyData} (h : a.length + b.length ≤ 1000000) : BinD X .Add (Ls a) (Ls b) (Ls (a ++ b)) := ⟨_, op_catD, fun m G H v u w r1 r2 Q q => by
  obtain ⟨p1, xs, rfl, h1, h2⟩ := ds_lst r1
  obtain ⟨p2, ys, rfl, h3, h4⟩ := ds_lst r2
  have l1 := dpa_length h2
  have l2 := dpa_length h4
  refine ⟨p1, p2, xs, ys, rfl, rfl, ex_l w.w h1, ex_l w.w h3, by omega, fun p hp => ?_⟩
  have g := Gr.new (o := .lst (xs ++ ys)) w hp
  exact q _ _ _ g (.py (.lst (SqL.of upd_same) (dpa_mono g.g (dpa_append h2 h4))))⟩
/-! ### comparisons -/
theorem c_int {op : CmpOp} {g : Int → Int → Bool} (ho : OpR X (compareOp op) (rI0 fun i j => .bl (g i j))) {i j : Int} : CmpD X op (I i) (I j) (g i j) := ⟨_, ho, fun m G H v u w r1 r2 Q q => by
  cases ds_int r1
  cases ds_int r2
  exact ⟨i, j, rfl, rfl, q _ _ _ (.refl w) (.py (.bl _))⟩⟩
theorem cd_lt {i j : Int} : CmpD X .Lt (I i) (I j) (decide (i < j)) := c_int op_lt
theorem cd_le {i j : Int} : CmpD X .LtE (I i) (I j) (decide (i ≤ j)) := c_int op_le
theorem cd_gt {i j : Int} : CmpD X .Gt (I i) (I j) (decide (j < i)) := c_int op_gt
theorem cd_ge {i j : Int} : CmpD X .GtE (I i) (I j) (decide (j ≤ i)) := c_int op_ge
theorem cd_eq {i j : Int} : CmpD X .Eq (I i) (I j) (decide (i = j)) := ⟨_, op_eq, fun m G H v u w r1 r2 Q q => by
  cases ds_int r1
  cases ds_int r2
  refine ⟨rfl, ?_⟩
  have e : decide (V.int i = V.int j) = decide (i = j) := decide_eq_decide.mpr ⟨V.int.inj, congrArg _⟩
  rw [e]
  exact q _ _ _ (.refl w) (.py (.bl _))⟩
theorem cd_ne {i j : Int} : CmpD X .NotEq (I i) (I j) (!decide (i = j)) := ⟨_, op_ne, fun m G H v u w r1 r2 Q q => by
  cases ds_int r1
  cases ds_int r2
  refine ⟨rfl, ?_⟩
  have e : decide (V.int i = V.int j) = decide (i = j) := decide_eq_decide.mpr ⟨V.int.inj, congrArg _⟩
  rw [e]
  exact q _ _ _ (.refl w) (.py (.bl _))⟩
theorem cd_eqS {a b : List Nat} : CmpD X .Eq (S a) (S b) (decide (a = b)) := ⟨_, op_eq, fun m G H v u w r1 r2 Q q => by
  cases ds_str r1
  cases ds_str r2
  refine ⟨rfl, ?_⟩
  have e : decide (V.str ⟨a.toArray⟩ = V.str ⟨b.toArray⟩) = decide (a = b) := decide_eq_decide.mpr ⟨fun h => str_inj.mp (V.str.inj h), fun h => by rw [h]⟩
  rw [e]
  exact q _ _ _ (.refl w) (.py (.bl _))⟩
theorem cd_neS {a b : List Nat} : CmpD X .NotEq (S a) (S b) (!decide (a = b)) := ⟨_, op_ne, fun m G H v u w r1 r2 Q q => by
  cases ds_str r1
  cases ds_str r2
  refine ⟨rfl, ?_⟩
  have e : decide (V.str ⟨a.toArray⟩ = V.str ⟨b.toArray⟩) = decide (a = b) := decide_eq_decide.mpr ⟨fun h => str_inj.mp (V.str.inj h), fun h => by rw [h]⟩
  rw [e]
  exact q _ _ _ (.refl w) (.py (.bl _))⟩
theorem cd_eqT {a b : Str} : CmpD X .Eq (.py (.str a)) (.py (.str b)) (decide (a = b)) := ⟨_, op_eq, fun m G H v u w r1 r2 Q q => by
  cases ds_str r1
  cases ds_str r2
  refine ⟨rfl, ?_⟩
  have e : decide (V.str a = V.str b) = decide (a = b) := decide_eq_decide.mpr ⟨fun h => V.str.inj h, fun h => by rw [h]⟩
  rw [e]
  exact q _ _ _ (.refl w) (.py (.bl _))⟩
theorem cd_neT {a b : Str} : CmpD X .NotEq (.py (.str a)) (.py (.str b)) (!decide (a = b)) := ⟨_, op_ne, fun m G H v u w r1 r2 Q q => by
  cases ds_str r1
  cases ds_str r2
  refine ⟨rfl, ?_⟩
  have e : decide (V.str a = V.str b) = decide (a = b) := decide_eq_decide.mpr ⟨fun h => V.str.inj h, fun h => by rw [h]⟩
  rw [e]
  exact q _ _ _ (.refl w) (.py (.bl _))⟩
theorem cd_ltS {a b : List Nat} : CmpD X .Lt (S a) (S b) (decide (a < b)) := ⟨_, op_lt_str, fun m G H v u w r1 r2 Q q => by
  cases ds_str r1
  cases ds_str r2
  exact ⟨_, _, rfl, rfl, q _ _ _ (.refl w) (.py (.bl _))⟩⟩
theorem cd_leS {a b : List Nat} : CmpD X .LtE (S a) (S b) (!decide (b < a)) := ⟨_, op_le_str, fun m G H v u w r1 r2 Q q => by
  cases ds_str r1
  cases ds_str r2
  exact ⟨_, _, rfl, rfl, q _ _ _ (.refl w) (.py (.bl _))⟩⟩
theorem cd_gtS {a b : List Nat} : CmpD X .Gt (S a) (S b) (decide (b < a)) := ⟨_, op_gt_str, fun m G H v u w r1 r2 Q q => by
  cases ds_str r1
  cases ds_str r2
  exact ⟨_, _, rfl, rfl, q _ _ _ (.refl w) (.py (.bl _))⟩⟩
theorem cd_inS {c : Nat} {b : List Nat} : CmpD X .In (S [c]) (S b) (decide (c ∈ b)) := ⟨_, op_in_sign, fun m G H v u w r1 r2 Q q => by
  cases ds_str r1
  cases ds_str r2
  exact ⟨c, _, rfl, rfl, q _ _ _ (.refl w) (.py (.bl _))⟩⟩
theorem cd_notinS {c : Nat} {b : List Nat} : CmpD X .NotIn (S [c]) (S b) (!decide (c ∈ b)) := ⟨_, op_notIn_sign, fun m G H v u w r1 r2 Q q => by
  cases ds_str r1
  cases ds_str r2
  exact ⟨c, _, rfl, rfl, q _ _ _ (.refl w) (.py (.bl _))⟩⟩
def isNone : PyData → Bool
  | .none => true
  | _ => false
theorem dp_none {K : PySem.W.Frag} {G : Hp} {v : V} {d : PyData} (h : Dp K G v d) : decide (v = .non) = isNone d := by cases h <;> rfl
theorem cd_isN {d : PyData} : CmpD X .Is (.py d) N0 (isNone d) := ⟨_, op_isN, fun m G H v u w r1 r2 Q q => by
  cases ds_non r2
  cases r1 with
  | py r1 => exact ⟨rfl, by rw [dp_none r1]; exact q _ _ _ (.refl w) (.py (.bl _))⟩⟩
theorem cd_notN {d : PyData} : CmpD X .IsNot (.py d) N0 (!isNone d) := ⟨_, op_notN, fun m G H v u w r1 r2 Q q => by
  cases ds_non r2
  cases r1 with
  | py r1 => exact ⟨rfl, by rw [dp_none r1]; exact q _ _ _ (.refl w) (.py (.bl _))⟩⟩
/-! ### items -/
theorem at_nn {α : Type} {l : List α} {i : Int} {c : α} (h0 : 0 ≤ i) (h : l[i.toNat]? = some c) : atI l i = some c := by
  have hl := (List.getElem?_eq_some_iff.mp h).1
  unfold atI ixN
  rw [if_pos h0, if_pos (by omega)]
  exact h
theorem sd_str {l : List Nat} {i : Int} {c : Nat} (h : atI l i = some c) (hz : l.length ≤ 1000000) : SubD X m (S l) (I i) (S [c]) := ⟨_, ix_str, fun G H v u w r1 r2 Q q => by
  cases ds_str r1
  cases ds_int r2
  exact ⟨_, i, c, rfl, rfl, by rw [str_len]; exact line_of hz, h, q _ _ _ (.refl w) (.py (.str _))⟩⟩
theorem atI_dp {K : PySem.W.Frag} {G : Hp} {vs : List V} {l : List PyData} {i : Int} {d : PyData} (h : DpAll K G vs l) (e : atI l i = some d) : ∃ v, atI vs i = some v ∧ Dp K G v d := by
  have hl := dpa_length h
  unfold atI at e ⊢
  rw [hl]
  cases q : ixN l.length i with
  | none => rw [q] at e; cases e
  | some j =>
    rw [q] at e
    exact dpa_get h e
theorem sd_tup {l : List PyData} {i : Int} {d : PyData} (h : atI l i = some d) : SubD X m (Tp l) (I i) (.py d) := ⟨_, ix_tup, fun G H v u w r1 r2 Q q => by
  obtain ⟨a, xs, rfl, h1, h2⟩ := ds_tup r1
  cases ds_int r2
  obtain ⟨x, h3, h4⟩ := atI_dp h2 h
  exact ⟨a, xs, i, x, rfl, rfl, ex_t w.w h1, h3, q _ _ _ (.refl w) (.py h4)⟩⟩
theorem sd_lst {l : List PyData} {i : Int} {d : PyData} (h : atI l i = some d) : SubD X m (Ls l) (I i) (.py d) := ⟨_, ix_list, fun G H v u w r1 r2 Q q => by
  obtain ⟨a, xs, rfl, h1, h2⟩ := ds_lst r1
  cases ds_int r2
  obtain ⟨x, h3, h4⟩ := atI_dp h2 h
  exact ⟨a, xs, i, x, rfl, rfl, ex_l w.w h1, h3, q _ _ _ (.refl w) (.py h4)⟩⟩
/-! ### slices -/
def cut {α : Type} (l : List α) (lo hi : Option Int) : List α := (l.drop (HT.sIx l.length 0 lo)).take (HT.sIx l.length l.length hi - HT.sIx l.length 0 lo)
theorem sl_S {l : List Nat} {lo hi : Option Int} (hz : l.length ≤ 1000000) : SlD X m (S l) lo hi (S (cut l lo hi)) := ⟨_, sl_str, fun G H v w r1 Q q => by
  cases ds_str r1
  refine ⟨_, rfl, by rw [str_len]; exact line_of hz, ?_⟩
  have e : cutS ⟨l.toArray⟩ lo hi = ⟨(cut l lo hi).toArray⟩ := by
    unfold cutS cut
    rw [str_len]
  rw [e]
  exact q _ _ _ (.refl w) (.py (.str _))⟩
theorem sl_L {l : List PyData} {lo hi : Option Int} : SlD X m (Ls l) lo hi (Ls (cut l lo hi)) := ⟨_, sl_list, fun G H v w r1 Q q => by
  obtain ⟨a, xs, rfl, h1, h2⟩ := ds_lst r1
  refine ⟨a, xs, rfl, ex_l w.w h1, fun p hp => ?_⟩
  have g := Gr.new (o := .lst (cutV xs lo hi)) w hp
  refine q _ _ _ g (.py (.lst (SqL.of upd_same) (dpa_mono g.g ?_)))
  have hl := dpa_length h2
  unfold cutV cut
  rw [hl]
  exact dpa_take _ (dpa_drop _ h2)⟩
theorem cut_nn {α : Type} (l : List α) (a b : Nat) : cut l (some (a : Int)) (some (b : Int)) = (l.drop a).take (b - a) := by
  unfold cut
  rw [HT.sIx_nat, HT.sIx_nat]
  by_cases h : l.length ≤ a
  · rw [List.drop_of_length_le (by omega), List.drop_of_length_le h]
    simp
  · have e1 : min a l.length = a := by omega
    rw [e1]
    by_cases h2 : b ≤ l.length
    · rw [Nat.min_eq_left h2]
    · rw [Nat.min_eq_right (by omega), List.take_of_length_le (by rw [List.length_drop]; omega), List.take_of_length_le (by rw [List.length_drop]; omega)]
theorem cut_n0 {α : Type} (l : List α) (a : Nat) : cut l (some (a : Int)) none = l.drop a := by
  unfold cut
  rw [HT.sIx_nat, HT.sIx_none]
  by_cases h : l.length ≤ a
  · rw [List.drop_of_length_le (by omega), List.drop_of_length_le h]
    simp
  · rw [Nat.min_eq_left (by omega), List.take_of_length_le (by rw [List.length_drop]; omega)]
theorem cut_0n {α : Type} (l : List α) (b : Nat) : cut l none (some (b : Int)) = l.take b := by
  unfold cut
  rw [HT.sIx_nat, HT.sIx_none, List.drop_zero, Nat.sub_zero]
  by_cases h2 : b ≤ l.length
  · rw [Nat.min_eq_left h2]
  · rw [Nat.min_eq_right (by omega), List.take_length, List.take_of_length_le (by omega)]
end
end W9
namespace W9
open PySem PySem.Spec PyProof.Rows L2
section
variable {X : Cx} {m : MS}
/-! ### calls of what is built in -/
theorem ca_one {f : Value} {x z : SD} {r : List V → Hp → VK → Prop} (hc : CallR X f r) (h : ∀ G H v, Wd X.K m G H → DS X.K G v x → ∀ Q : VK, (∀ w G' H', Gr X.K m m G H G' H' → DS X.K G' w z → Q w H') → r [v] H Q) : CaD X f m [x] z := ⟨r, hc, fun G H vs w rs Q q => by
  cases rs with
  | cons r1 r2 =>
    cases r2
    exact h G H _ w r1 Q q⟩
theorem ca_two {f : Value} {x y z : SD} {r : List V → Hp → VK → Prop} (hc : CallR X f r) (h : ∀ G H v u, Wd X.K m G H → DS X.K G v x → DS X.K G u y → ∀ Q : VK, (∀ w G' H', Gr X.K m m G H G' H' → DS X.K G' w z → Q w H') → r [v, u] H Q) : CaD X f m [x, y] z := ⟨r, hc, fun G H vs w rs Q q => by
  cases rs with
  | cons r1 r2 => cases r2 with
    | cons r2 r3 =>
      cases r3
      exact h G H _ _ w r1 r2 Q q⟩
theorem ca_lenS {l : List Nat} (hz : l.length ≤ 1000000) : CaD X (.builtin "len") m [S l] (I l.length) := ca_one call_len_str fun G H v w r Q q => by
  cases ds_str r
  refine ⟨_, rfl, by rw [str_len]; exact line_of hz, ?_⟩
  rw [str_len]
  exact q _ _ _ (.refl w) (.py (.int _))
theorem ca_lenL {l : List PyData} : CaD X (.builtin "len") m [Ls l] (I l.length) := ca_one call_len fun G H v w r Q q => by
  obtain ⟨a, xs, rfl, h1, h2⟩ := ds_lst r
  exact ⟨_, xs.length, rfl, .inl ⟨xs, ex_l w.w h1, rfl⟩, by rw [dpa_length h2]; exact q _ _ _ (.refl w) (.py (.int _))⟩
theorem ca_lenT {l : List PyData} : CaD X (.builtin "len") m [Tp l] (I l.length) := ca_one call_len fun G H v w r Q q => by
  obtain ⟨a, xs, rfl, h1, h2⟩ := ds_tup r
  exact ⟨_, xs.length, rfl, .inr ⟨xs, ex_t w.w h1, rfl⟩, by rw [dpa_length h2]; exact q _ _ _ (.refl w) (.py (.int _))⟩
theorem ca_int {i : Int} : CaD X (.type "int") m [I i] (I i) := ca_one call_int1 fun G H v w r Q q => by
  cases ds_int r
  exact .inl ⟨i, rfl, q _ _ _ (.refl w) (.py (.int _))⟩
theorem ca_intB {i : Bool} : CaD X (.type "int") m [B i] (I (if i then 1 else 0)) := ca_one call_int1 fun G H v w r Q q => by
  cases ds_bl r
  exact .inr ⟨i, rfl, q _ _ _ (.refl w) (.py (.int _))⟩
theorem ca_abs {i : Int} : CaD X (.builtin "abs") m [I i] (I (if i < 0 then -i else i)) := ca_one call_abs fun G H v w r Q q => by
  cases ds_int r
  exact ⟨i, rfl, q _ _ _ (.refl w) (.py (.int _))⟩
theorem ca_max2 (hc : X.calm = true) {i j : Int} : CaD X (.builtin "max") m [I i, I j] (I (if j > i then j else i)) := ca_two (call_max2 hc) fun G H v u w r r2 Q q => by
  cases ds_int r
  cases ds_int r2
  exact ⟨i, j, rfl, q _ _ _ (.refl w) (.py (.int _))⟩
theorem ca_min2 (hc : X.calm = true) {i j : Int} : CaD X (.builtin "min") m [I i, I j] (I (if j < i then j else i)) := ca_two (call_min2 hc) fun G H v u w r r2 Q q => by
  cases ds_int r
  cases ds_int r2
  exact ⟨i, j, rfl, q _ _ _ (.refl w) (.py (.int _))⟩
theorem dpa_ints {K : PySem.W.Frag} {G : Hp} : ∀ {ns : List Int} {vs : List V}, DpAll K G vs (ns.map .int) → vs = ns.map V.int
  | [], _, h => by cases h; rfl
  | n :: ns, _, h => by
    cases h with
    | cons a b => cases a; rw [dpa_ints b]; rfl
theorem dpa_bools {K : PySem.W.Frag} {G : Hp} : ∀ {ns : List Bool} {vs : List V}, DpAll K G vs (ns.map .bool) → vs = ns.map V.bl
  | [], _, h => by cases h; rfl
  | n :: ns, _, h => by
    cases h with
    | cons a b => cases a; rw [dpa_bools b]; rfl
theorem dpa_strs {K : PySem.W.Frag} {G : Hp} : ∀ {ns : List Str} {vs : List V}, DpAll K G vs (ns.map .str) → vs = ns.map V.str
  | [], _, h => by cases h; rfl
  | n :: ns, _, h => by
    cases h with
    | cons a b => cases a; rw [dpa_strs b]; rfl
theorem ca_sum (hc : X.calm = true) {ns : List Int} : CaD X (.builtin "sum") m [Ls (ns.map .int)] (I ns.sum) := ca_one (cr_sum hc) fun G H v w r Q q => by
  obtain ⟨a, xs, rfl, h1, h2⟩ := ds_lst r
  rw [dpa_ints h2] at h1
  exact ⟨a, ns, rfl, ex_l w.w h1, q _ _ _ (.refl w) (.py (.int _))⟩
theorem ca_all (hc : X.calm = true) {ns : List Bool} : CaD X (.builtin "all") m [Ls (ns.map .bool)] (B (ns.all id)) := ca_one (cr_all hc) fun G H v w r Q q => by
  obtain ⟨a, xs, rfl, h1, h2⟩ := ds_lst r
  rw [dpa_bools h2] at h1
  exact ⟨a, ns, rfl, ex_l w.w h1, q _ _ _ (.refl w) (.py (.bl _))⟩
theorem ca_any (hc : X.calm = true) {ns : List Bool} : CaD X (.builtin "any") m [Ls (ns.map .bool)] (B (ns.any id)) := ca_one (cr_any hc) fun G H v w r Q q => by
  obtain ⟨a, xs, rfl, h1, h2⟩ := ds_lst r
  rw [dpa_bools h2] at h1
  exact ⟨a, ns, rfl, ex_l w.w h1, q _ _ _ (.refl w) (.py (.bl _))⟩
theorem ca_ord {c : Nat} : CaD X (.builtin "ord") m [S [c]] (I c) := ca_one call_ord fun G H v w r Q q => by
  cases ds_str r
  exact ⟨_, rfl, rfl, q _ _ _ (.refl w) (.py (.int _))⟩
theorem ca_tupL {l : List PyData} : CaD X (.type "tuple") m [Ls l] (Tp l) := ca_one call_tuple_of fun G H v w r Q q => by
  obtain ⟨a, xs, rfl, h1, h2⟩ := ds_lst r
  refine ⟨a, xs, rfl, .inl ⟨ex_l w.w h1, fun p hp => ?_⟩⟩
  have g := Gr.new (o := .tup xs) w hp
  exact q _ _ _ g (.py (.tup (SqT.of upd_same) (dpa_mono g.g h2)))
theorem ca_listL {l : List PyData} : CaD X (.type "list") m [Ls l] (Ls l) := ca_one call_list_of fun G H v w r Q q => by
  obtain ⟨a, xs, rfl, h1, h2⟩ := ds_lst r
  refine ⟨a, xs, rfl, .inl (ex_l w.w h1), fun p hp => ?_⟩
  have g := Gr.new (o := .lst xs) w hp
  exact q _ _ _ g (.py (.lst (SqL.of upd_same) (dpa_mono g.g h2)))
theorem ca_listT {l : List PyData} : CaD X (.type "list") m [Tp l] (Ls l) := ca_one call_list_of fun G H v w r Q q => by
  obtain ⟨a, xs, rfl, h1, h2⟩ := ds_tup r
  refine ⟨a, xs, rfl, .inr (ex_t w.w h1), fun p hp => ?_⟩
  have g := Gr.new (o := .lst xs) w hp
  exact q _ _ _ g (.py (.lst (SqL.of upd_same) (dpa_mono g.g h2)))
/-- list(text) -/
theorem vals_signs : ∀ (l : List Nat) (a : List Value), a.length = l.length → (∀ (j : Nat) v, a[j]? = some v → ∃ c u, l[j]? = some c ∧ v = Value.str ⟨#[c]⟩ u) → Vals (l.map fun c => V.str ⟨#[c]⟩) a
  | [], [], _, _ => .nil
  | [], _ :: _, h, _ => by simp at h
  | _ :: _, [], h, _ => by simp at h
  | c :: l, x :: a, h, hi => by
    obtain ⟨c', u, h1, h2⟩ := hi 0 x rfl
    have e : c = c' := by simpa using h1
    subst e h2
    exact .cons ⟨u, rfl⟩ (vals_signs l a (by simpa using h) fun j v e => by
      obtain ⟨c, u, h1, h2⟩ := hi (j + 1) v (by simpa using e)
      exact ⟨c, u, by simpa using h1, h2⟩)
theorem call_list_txt (hc : X.calm = true) : CallR X (.type "list") (fun vs H Q => ∃ l : List Nat, vs = [.str ⟨l.toArray⟩] ∧ l.length ≤ 1000000 ∧ ∀ p, H p = none → Q (.ref p) (upd H p (.lst (l.map fun c => V.str ⟨#[c]⟩)))) := fun pins s σ H vs us Q J r ⟨l, e1, hz, q⟩ => by
  subst e1
  obtain ⟨u, rfl, t, rfl⟩ := r.one
  refine call_list_str (J.ok.hd hc) _ t (fun h' tk acc c hk hp it => ?_) (by show l.toArray.size ≤ _; rw [List.size_toArray]; exact line_of hz)
  have rv : Vals (l.map fun c => V.str ⟨#[c]⟩) acc.toList := by
    obtain ⟨hs, hi⟩ := it
    refine vals_signs l _ (by rw [Array.length_toList, hs]; simp) fun j v e => ?_
    obtain ⟨c, u, h1, h2⟩ := hi j v (by simpa using e)
    exact ⟨c, u, by simpa using h1, h2⟩
  have new : ObjOk X.prog X.w (upd H s.heap.objs.size (.lst (l.map fun c => V.str ⟨#[c]⟩))) h' s.heap.objs.size (.lst (l.map fun c => V.str ⟨#[c]⟩)) := ⟨by rw [List.length_map]; exact line_of hz, acc.toList, c, rv, by rw [hp]⟩
  exact ⟨.ref s.heap.objs.size, _, J.laid (t' := tk) hk (Nat.le_refl _) new, rfl, q _ J.fresh⟩
theorem dpa_signs {K : PySem.W.Frag} {G : Hp} : ∀ (l : List Nat), DpAll K G (l.map fun c => V.str ⟨#[c]⟩) (l.map fun c => PyData.str ⟨[c].toArray⟩)
  | [] => .nil
  | c :: l => .cons (.str _) (dpa_signs l)
theorem ca_listS (hc : X.calm = true) {l : List Nat} (hz : l.length ≤ 1000000) : CaD X (.type "list") m [S l] (Ls (l.map fun c => PyData.str ⟨[c].toArray⟩)) := ca_one (call_list_txt hc) fun G H v w r Q q => by
  cases ds_str r
  refine ⟨l, rfl, hz, fun p hp => ?_⟩
  have g := Gr.new (o := .lst (l.map fun c => V.str ⟨#[c]⟩)) w hp
  exact q _ _ _ g (.py (.lst (SqL.of upd_same) (dpa_signs l)))
/-! ### isinstance -/
theorem ca_isiStr {x : Str} : CaD X (.builtin "isinstance") m [.py (.str x), .raw (.ty "str")] (B true) := ca_two call_isi fun G H v u w r r2 Q q => by
  cases ds_str r
  cases ds_raw r2
  refine ⟨_, _, .type "str", .type "str", true, rfl, .ty "str", .base (.str _), ?_, q _ _ _ (.refl w) (.py (.bl _))⟩
  unfold PySem.W.kitOne
  rw [if_pos (by decide)]
/-- a built-in's name as a value -/
theorem ee_blt {ds : DE} {x : Str} {v : V} {u : Value} {pos : Pos} (hm : X.mg x = none) (hv : bootBuiltins x = some u) (r : RelV v u) (hg : Gl X x := by rfl) (hn : x ≠ "__name__" := by decide) (hd : (x == ("__debug__" : Str)) = false := by decide) : EE X (.Name x pos) ds (.raw v) :=
  ee_c (pe_bltn hg hm hv r hn hd) fun _ => .raw v

/-! ### methods of texts -/
theorem ty_str {l : List Nat} : ∀ G H v, Wd X.K m G H → DS X.K G v (S l) → tyV X.K "str" v H := fun G H v w r => by cases ds_str r; rfl
theorem md_index {l : List Nat} {c k : Nat} {rest : List Nat} (h : Builtin.Str.occurrences ⟨l.toArray⟩ ⟨#[c]⟩ 0 (⟨l.toArray⟩ : Str).length 1 = k :: rest) : MtD X "str" "str.index" m (S l) [S [c]] (I k) := ⟨ty_str, _, mt_sindex, fun G H v vs w r rs Q q => by
  cases ds_str r
  cases rs with
  | cons r1 r2 =>
    cases r2
    cases ds_str r1
    exact ⟨_, _, k, rest, rfl, rfl, h, q _ _ _ (.refl w) (.py (.int _))⟩⟩
/-- sep.join(texts) -/
def joinL (sep : List Nat) : List (List Nat) → List Nat
  | [] => []
  | [x] => x
  | x :: y :: r => x ++ sep ++ joinL sep (y :: r)
theorem joinL_nil : ∀ ls : List (List Nat), joinL [] ls = ls.flatten
  | [] => rfl
  | [x] => by simp [joinL]
  | x :: y :: r => by
    rw [joinL, joinL_nil (y :: r)]
    simp
theorem fold_join (sep : List Nat) : ∀ (r : List (List Nat)) (x : List Nat), (r.map fun l => (⟨l.toArray⟩ : Str)).foldl (fun acc p => acc ++ sep.toArray ++ p.cps) x.toArray = (joinL sep (x :: r)).toArray
  | [], x => rfl
  | y :: r, x => by
    rw [List.map_cons, List.foldl_cons]
    show (r.map fun l => (⟨l.toArray⟩ : Str)).foldl _ (x.toArray ++ sep.toArray ++ y.toArray) = _
    rw [List.append_toArray, List.append_toArray, fold_join sep r (x ++ sep ++ y)]
    cases r with
    | nil => rfl
    | cons z r => simp [joinL]
theorem txt_join (sep : List Nat) (ls : List (List Nat)) : Txt.join ⟨sep.toArray⟩ (ls.map fun l => ⟨l.toArray⟩) = ⟨(joinL sep ls).toArray⟩ := by
  unfold Txt.join Builtin.Str.glued
  cases ls with
  | nil => rfl
  | cons x r =>
    show (⟨(r.map fun l => (⟨l.toArray⟩ : Str)).foldl (fun acc p => acc ++ sep.toArray ++ p.cps) x.toArray⟩ : Str) = _
    rw [fold_join]
abbrev txts (ls : List (List Nat)) : List PyData := ls.map fun l => PyData.str ⟨l.toArray⟩
theorem md_join {sep : List Nat} {ls : List (List Nat)} (hz : (ls.map List.length).sum + ls.length * sep.length ≤ 1000000) : MtD X "str" "str.join" m (S sep) [Ls (txts ls)] (S (joinL sep ls)) := ⟨ty_str, _, mt_join, fun G H v vs w r rs Q q => by
  cases ds_str r
  cases rs with
  | cons r1 r2 =>
    cases r2
    obtain ⟨a, xs, rfl, h1, h2⟩ := ds_lst r1
    have e : txts ls = (ls.map fun l => (⟨l.toArray⟩ : Str)).map PyData.str := by rw [List.map_map]; rfl
    rw [e] at h2
    rw [dpa_strs h2] at h1
    refine ⟨_, a, _, rfl, rfl, .inl (ex_l w.w h1), ?_, ?_⟩
    · rw [List.map_map, List.length_map, str_len]
      have e2 : (ls.map (Str.length ∘ fun l => (⟨l.toArray⟩ : Str))) = ls.map List.length := List.map_congr_left fun l _ => str_len l
      rw [e2]
      omega
    · rw [txt_join]
      exact q _ _ _ (.refl w) (.py (.str _))⟩
end
/-! ### a dict that is owned: get -/
section
variable {X : Cx} {ds : DE} {m : MS} {pos : Pos}
theorem we_dget2 {o e f : Expr} {apos : Pos} {p : Addr} {kvs : List (Key × V)} {i : Int} {d : PyData} {P : SD → MS → Prop} (hu : X.A.units + 1 < cLine) (ho : EE X o ds (.raw (.ref p))) (h1 : EE X e ds (PySem.PyData.int i |> SD.py))
    (h2 : EE X f ds (.py d)) (hm : (p, OV.ho (.dK kvs)) ∈ m) (hz : ∀ G x, Dp X.K G x d → ∃ d', Dp X.K G ((valV kvs (Sum.inl i)).getD x) d' ∧ P (.py d') m) (hM : M2 X o "get" apos e f pos) : WE X (.Call (.Attribute o "get" apos) [e, f] [] pos) ds m P := fun σ G H E w Q q =>
  oE (pe_dget2 hu (pE o) (pE e) (pE f) hM) (ho m σ G H E w _ fun v d1 m1 G1 H1 g1 r1 ⟨e1, e2⟩ => by
    subst e1 e2
    cases ds_raw r1
    obtain ⟨_, o1, k1, k2⟩ := g1.wd.own _ hm
    have k2 : o1 = .dK kvs := k2
    subst k2
    refine ⟨p, rfl, .inl ⟨kvs, .inl k1⟩, ?_⟩
    refine h1 m1 σ G1 H1 (E.mono g1.g) g1.wd _ fun v2 d2 m2 G2 H2 g2 r2 ⟨e1, e2⟩ => ?_
    subst e1 e2
    refine h2 m2 σ G2 H2 (E.mono (g1.trans g2).g) g2.wd _ fun v3 d3 m3 G3 H3 g3 r3 ⟨e3, e4⟩ => ?_
    subst e3 e4
    obtain ⟨_, o3, k3, k4⟩ := g3.wd.own _ hm
    have k4 : o3 = .dK kvs := k4
    subst k4
    cases ds_int r2
    have r3' : Dp X.K G3 v3 d := by
      cases r3 with
      | py z => exact z
    obtain ⟨d', z1, z2⟩ := hz G3 v3 r3'
    exact ⟨_, DGet.k (k := Sum.inl i) k3, q _ _ _ _ _ ((g1.trans g2).trans g3) (.py z1) z2⟩)
end
/-! ### enumerate of a text -/
def Iteu (x : Str) : It := ⟨fun i _ => i < x.cps.size, fun i H v H' => ∃ T c, v = .ref T ∧ H T = none ∧ H' = upd H T (.tup [.int (i : Nat), .str ⟨#[c]⟩]) ∧ x.cps[i]? = some c, fun i _ => i = x.cps.size⟩
theorem turn_enumS {P : Program} {w : World} {K : PySem.W.Frag} {elts : List Expr} {kk : Nat} {tpos : Pos} (e it : Addr) (x : Str) (t : Tok) :
    Turn P w K (.Tuple elts kk tpos) (Iteu x) [e, it] e (fun i h => (∃ old, IsEnum h e it ((i : Nat) : Int) old) ∧ h.IsStrIter it "str_ascii_iterator" x t i ∧ e ≠ it) where
  mem := by simp
  obj := fun i h st b hb => by
    obtain ⟨⟨old, he⟩, ⟨o, ho, hc, hd⟩, _⟩ := st
    rcases (show b = e ∨ b = it by simpa using hb) with z | z
    · subst z; exact ⟨_, he, fun v q => nomatch q⟩
    · subst z; exact ⟨o, ho, fun v q => by rw [hd] at q; cases q⟩
  keep := fun i h h' st k => let ⟨⟨old, he⟩, ⟨o, ho, hr⟩, hne⟩ := st; ⟨⟨old, k e (by simp) _ he⟩, ⟨o, k it (by simp) o ho, hr⟩, hne⟩
  item := by
    intro X hP hw hK hc i pins s σ H E J hf st hlt
    subst hP hw hK
    obtain ⟨⟨old, he⟩, hit, hne⟩ := st
    have hel : e < s.heap.objs.size := Heap.lt_size he
    have hil : it < s.heap.objs.size := by obtain ⟨_, q, _⟩ := hit; exact Heap.lt_size q
    have D := Draws.strAscii (prog := X.prog) (w := X.w) (A := X.A.in1) (J.ok.hd hc) it x t
    refine wpAny_pyNext_enum_itemD D he hit hlt hne (by simpa using hne) fun v h' tk hv ho hit' hT hsz hk => ?_
    obtain ⟨c, u, hcx, rfl⟩ := hv
    refine ⟨_, rfl, wpAny_letOwnedTupleGo_enum (s := { s with heap := h', toks := tk + 1 }) ho fun h2 he' sb => ?_⟩
    have far : ∀ {b}, b ∉ [e, it] → b ≠ e ∧ b ≠ it := fun {b} hb => ⟨fun z => hb (by simp [z]), fun z => hb (by simp [z])⟩
    have new : ObjOk X.prog X.w (upd H s.heap.objs.size (.tup [.int (i : Nat), .str ⟨#[c]⟩])) h2 s.heap.objs.size (.tup [.int (i : Nat), .str ⟨#[c]⟩]) :=
      ⟨by show 2 ≤ sizeLine; decide, [.int i tk, .str ⟨#[c]⟩ u], .cons ⟨_, rfl⟩ (.cons ⟨_, rfl⟩ .nil), ⟨_, (sb.2 _ (Nat.ne_of_gt hel)).trans hT, rfl, _, rfl⟩⟩
    have J1 := J.turnedNew (ch := [e, it]) (t' := tk + 1) (fun b ob hb q => (sb.2 b (far hb).1).trans (hk b ob (far hb).1 (far hb).2 q)) hf (Nat.le_refl _) new
    have hit2 : h2.IsStrIter it "str_ascii_iterator" x t (i + 1) := by
      obtain ⟨o, h1, hr⟩ := hit'
      exact ⟨o, (sb.2 it (Ne.symm hne)).trans h1, hr⟩
    have e1 : ((i + 1 : Nat) : Int) = (i : Int) + 1 := by omega
    have he2 : IsEnum h2 e it ((i + 1 : Nat) : Int) (Value.str ⟨#[c]⟩ u) := by rw [e1]; exact he'
    refine ⟨.ref s.heap.objs.size, _, J1, rfl, ⟨_, c, rfl, J.hok.fresh (Nat.le_refl _), rfl, hcx⟩, ⟨⟨_, he2⟩, hit2, hne⟩, fun b hb => ?_⟩
    have hb' : b < s.heap.objs.size := by
      rcases (show b = e ∨ b = it by simpa using hb) with z | z
      · rw [z]; exact hel
      · rw [z]; exact hil
    rw [upd_ne (Nat.ne_of_lt hb')]
    exact (hf b hb).1
  done := by
    intro X hP hw hK hc i pins s σ H E J hf st hstop
    subst hP hw hK
    obtain ⟨⟨old, he⟩, hit, hne⟩ := st
    obtain ⟨f0, f1, f2, f3, f4, f5⟩ := hf it (by simp)
    have D := Draws.strAscii (prog := X.prog) (w := X.w) (A := X.A.in1) (J.ok.hd hc) it x t
    have hn : i = x.cps.size := hstop
    subst hn
    exact wpAny_pyNext_enum_endD D he hit fun h' eb => ⟨rfl, J.turned (t' := s.toks) (fun b o hb q => eb b o hb q) f0 f1 f3 f4 f5⟩
  self := fun A i s Q E st h => let ⟨⟨_, he⟩, _⟩ := st; wpAny_pyIter_enum he h
def iEnumS (ta : TA) : TI := fun σ H R => ta σ H fun vs H1 => ∃ x : Str, vs = [.str x] ∧ x.cps.all (· < 128) = true ∧ R (Iteu x) H1
theorem pi_enumS {X : Cx} {e : Expr} {ta : TA} {p pos tpos : Pos} {elts : List Expr} {kk : Nat} (hg : Gl X "enumerate") (hm : X.mg "enumerate" = none) (ha : PA X [e] ta) (hs : starEach [e] X.env = [(false, eval e X.env)]) :
    PI X (.Tuple elts kk tpos) (.Call (.Name "enumerate" p) [e] [] pos) (iEnumS ta) := ⟨fun pins s σ H R J h => by
  refine Call_ (ld_blt J hg hm boot_enumerate (PyProof.Rows.callWith_type1 (thn (ha.run pos pins s σ H _ J h) fun us s1 ⟨vs, H1, J1, r1, x, ex, hx, q⟩ => ?_) hs rfl))
  subst ex
  obtain ⟨u, rfl, t, rfl⟩ := r1.one
  refine call_enumerate_str fun h' he hit hsz hk => wpAny_pyIter_enum he ?_
  have hty : strIterType x = "str_ascii_iterator" := by unfold strIterType; rw [if_pos hx]
  rw [hty] at hit
  refine ⟨s1.heap.objs.size + 1, [s1.heap.objs.size + 1, s1.heap.objs.size], _, _, H1, rfl, J1.kept (t' := s1.toks) hk, turn_enumS _ _ x t, ⟨⟨.none, he⟩, hit, Nat.succ_ne_self _⟩, fun b hb => ?_, q⟩
  have hle : s1.heap.objs.size ≤ b := by
    rcases (show b = s1.heap.objs.size + 1 ∨ b = s1.heap.objs.size by simpa using hb) with z | z
    · rw [z]; exact Nat.le_add_right _ _
    · rw [z]; exact Nat.le_refl _
  exact J1.fpOk hle (J1.hok.fresh hle)⟩
section
variable {X : Cx} {ds : DE} {e : Expr} {pos : Pos}
theorem ei_enumS {l : List Nat} {p tpos : Pos} {elts : List Expr} {kk : Nat} (h : EE X e ds (S l)) (ha : l.all (· < 128) = true) (hm : X.mg "enumerate" = none) (hg : Gl X "enumerate" := by rfl) (hs : starEach [e] X.env = [(false, eval e X.env)] := by rfl) :
    EI X (.Tuple elts kk tpos) (.Call (.Name "enumerate" p) [e] [] pos) ds (l.zipIdx.map fun (q : Nat × Nat) => Tp [.int (q.2 : Nat), .str ⟨[q.1].toArray⟩]) := fun m σ G H E w R' q => oI (pi_enumS hg hm (pa_cons (pE e) pa_nil (by rw [hs]; rfl)) hs) (h m σ G H E w _ fun v d m1 G1 H1 g1 r1 ⟨e1, e2⟩ => by
  subst e1 e2
  cases ds_str r1
  refine ⟨_, rfl, by simpa using ha, q (Iteu ⟨l.toArray⟩) _ _ _ _ g1 ⟨fun i H e hi => ?_, fun H e => ?_, fun i m' G' H' x H2 e w' hi y => ?_⟩ ⟨rfl, rfl⟩⟩
  · show i < l.toArray.size
    simpa using hi
  · show (l.zipIdx.map fun (q : Nat × Nat) => Tp [.int (q.2 : Nat), .str ⟨[q.1].toArray⟩]).length = l.toArray.size
    simp
  · obtain ⟨T, c, rfl, nT, rfl, hc⟩ := y
    have hc : l[i]? = some c := by simpa using hc
    have g3 := Gr.new (o := .tup [.int (i : Nat), .str ⟨#[c]⟩]) w' nT
    refine ⟨_, Tp [.int (i : Nat), .str ⟨[c].toArray⟩], g3, ?_, .py (.tup (SqT.of upd_same) (.cons (.int _) (.cons (.str _) .nil)))⟩
    rw [List.getElem?_map, List.getElem?_zipIdx, hc]
    simp)
end
end W9
namespace W9
open PySem PySem.Spec PyProof.Rows L2
/-! ### the law's call from the top, for a def of this layer -/
section
variable {P : Program} {w : World} {K : PySem.W.Frag} {mg mb : Str → Option Value}
/-- what is tracked at the start: the script, where the module's own objects do not hold it -/
def scriptH (K : PySem.W.Frag) (a : Addr) (O : Obj) (ns : List Int) : Hp := fun b => if b = a ∧ K.lookup a = none then some (.frz O (.lst (ns.map V.int))) else none
theorem scriptH_some {a b : Addr} {O : Obj} {ns : List Int} {u : HO} (e : scriptH K a O ns b = some u) : b = a ∧ K.lookup a = none ∧ u = .frz O (.lst (ns.map V.int)) := by
  unfold scriptH at e
  split at e
  · next h => cases e; exact ⟨h.1, h.2, rfl⟩
  · cases e
theorem scriptH_ne {a b : Addr} {O : Obj} {ns : List Int} (h : b ≠ a) : scriptH K a O ns b = none := if_neg fun z => h z.1
theorem scriptH_K {a : Addr} {O : Obj} {ns : List Int} {o : Obj} (h : K.lookup a = some o) (b : Addr) : scriptH K a O ns b = none := if_neg fun z => by rw [h] at z; cases z.2
theorem dpa_of_ints {G : Hp} : ∀ ns : List Int, DpAll K G (ns.map V.int) (ns.map PyData.int)
  | [] => .nil
  | n :: ns => .cons (.int n) (dpa_of_ints ns)
theorem top_call {k : Nat} {fa a : Addr} {fd : FuncData} {x : Str} {F : FT} {s : Shared} {vs : List Value} {ns : List Int}
    (kin : K.In s.heap) (nsm : s.heap.Ns mainGlobals mg) (nsb : s.heap.Ns builtinsNs mb) (boot : ∀ x : Str, x ≠ "__name__" → mb x = bootBuiltins x) (lim : s.heap.NoLimit) (ge : s.gens = #[])
    (obj : s.heap.get? a = some { cls := .type "list", data := .seq vs.toArray }) (hin : IntsAre vs ns) (small : ns.length ≤ sizeLine) (rm : Rm k callerA)
    (fn : ∀ base : Heap, K.In base → base.Ns mainGlobals mg → FnG P w K mg base CX0 k fa fd [x] (SpD K F)) (bd : ∀ (s : Shared) (u : Value), BindsTo s fd ⟨[u], []⟩ [(x, u)])
    (due : F [Ls (ns.map .int)] [] fun d _ => d = B true) :
    codeAny (model P w) callerA (.call (.ref fa) ⟨[.ref a], []⟩) (fun r s' => r = .ok (.ret (.bool true)) ∧ OldK s.heap s'.heap ∧ s'.os = s.os ∧ AllBare s'.gens) s := by
  let O : Obj := { cls := .type "list", data := .seq vs.toArray }
  let H : Hp := scriptH K a O ns
  have vals : Vals (ns.map V.int) vs := vals_ints hin
  have unt : ∀ {b : Addr} {o : Obj}, s.heap.get? b = some o → (∀ t n, o.data ≠ .seq t n) → H b = none := fun {b o} e hd => by
    by_cases z : b = a
    · subst z
      rw [obj] at e
      cases e
      exact absurd rfl (hd vs.toArray _)
    · exact scriptH_ne z
  have lift : ∀ {b : Addr} {m : Str → Option Value}, s.heap.Ns b m → (hidT s.heap H).Ns b m := fun {b m} ⟨o, es, ep, e, d, r⟩ =>
    ⟨o, es, ep, hidT_get e (unt e fun t n z => by rw [d] at z; cases z), d, r⟩
  have kinH : K.In (hidT s.heap H) := fun b o e => hidT_get (kin b o e) (by
    by_cases z : b = a
    · subst z; exact scriptH_K e b
    · exact scriptH_ne z)
  have seq : SqL K H a (ns.map V.int) := by
    cases q : K.lookup a with
    | none => exact .inl (.inr ⟨O, if_pos ⟨rfl, q⟩⟩)
    | some o =>
      have e := kin a o q
      rw [obj] at e
      cases e
      exact .inr ⟨O, vs.toArray, _, q, rfl, rfl, rfl, by rw [List.size_toArray, hin.length]; exact small, by rw [List.toList_toArray]; exact vals⟩
  have hok : HOk P w H s.heap := fun b u e => by
    obtain ⟨rfl, _, rfl⟩ := scriptH_some e
    exact ⟨obj, by rw [List.length_map]; exact small, vs, _, vals, obj⟩
  have md : Mod K mg (hidT s.heap H) := ⟨kinH, lift nsm, ⟨mb, lift nsb, boot⟩, let ⟨mc, h1, h2⟩ := lim; ⟨mc, lift h1, h2⟩⟩
  have env : Env0 P w K mg (hidT s.heap H) callerA [] s H := ⟨rfl, md, fun b o e => of_hidT e, Nat.le_of_eq (hidT_size _ _), trivial, fun b hb => absurd (show b ∈ ([] : List Addr) from hb) (by simp), hok, .of_eq ge⟩
  have sp : SpD K F [.ref a] H (fun v _ => v = .bl true) fun _ _ _ => False :=
    ⟨H, [], [Ls (ns.map .int)], _, ⟨Ex.refl H, fun _ h => (nomatch h), List.nodup_nil⟩, .cons (.py (.lst seq (dpa_of_ints ns))) .nil, due, fun v d m' G' H' g r e => by subst e; exact ds_bl r⟩
  refine codeAny_mono ((fn _ kinH (lift nsm)).go callerA [] s H ⟨[.ref a], []⟩ [.ref a] [.ref a] _ _ rm env (bd s (.ref a)) (.cons rfl .nil) sp) fun r s' h => ?_
  match r, h with
  | .error e, h => exact h.elim
  | .ok .next, h => exact h.elim
  | .ok .brk, h => exact h.elim
  | .ok .cont, h => exact h.elim
  | .ok (.ret u), ⟨v, H', os, bare, un, hok', r', q⟩ =>
    have q' : v = .bl true := q
    subst q'
    have eu : u = Value.bool true := r'
    subst eu
    refine ⟨rfl, OldK.of_keep fun b o e => ?_, os, bare⟩
    cases z : H b with
    | none => exact un.keep b o e z (fun y => nomatch y) (by simp)
    | some t =>
      obtain ⟨rfl, _, rfl⟩ := scriptH_some z
      have e1 := (hok _ _ z).1
      have e2 := (hok' _ _ (un.frzs _ _ _ z)).1
      rw [e] at e1
      rw [e2, e1]
end
theorem walk_top {l : PySem.W.OpenLaw} {n k : Nat} {q : Program} {loose : List Str} {XP : (Str → Option Value) → Heap → Prop} {YP : World → Heap → Prop} {d : DefRec} {K : Params → PySem.W.Frag} {F : World → FT} {x : Str}
    (hn : l.most = some n) (hn2 : n ≤ sizeLine) (hdf : d.params.defaults = []) (hr : Room k callerA)
    (hY : ∀ (w : World) (h : Heap), YP w h → (K w.params).In h)
    (fn : ∀ (w : World) (mg : Str → Option Value) (fa : Addr) (h : Heap), (K w.params).In h → h.Ns mainGlobals mg → mg d.name = some (.ref fa) →
      ∃ fd : FuncData, (∀ (s : Shared) (u : Value), BindsTo s fd ⟨[u], []⟩ [(x, u)]) ∧
        ∀ base : Heap, (K w.params).In base → base.Ns mainGlobals mg → FnG l.prog w (K w.params) mg base CX0 k fa fd [x] (SpD (K w.params) (F w)))
    (due : ∀ (w : World) (ns : List Int), ns.length ≤ n → (∀ z ∈ ns, Builtin.Int.intBits z ≤ 1048576) → F w [Ls (ns.map .int)] [] fun d _ => d = B true) :
    PySem.W.WalkO q loose XP YP l.row.toRowW d [] (fun f vs => PySem.call f vs) := by
  refine Att.attach_callB hn hdf fun w s₀ s mg mb fa o pm cd doc a vs ns G Y ho hd hcd hmg obj hin hlen bits ge => ?_
  obtain ⟨fd, hb, hF⟩ := fn w mg fa _ (hY w _ Y) G.T.g hmg
  exact top_call (hY w _ Y) G.T.g G.T.b G.T.builtins G.T.nolimit ge obj hin (Nat.le_trans hlen hn2) ⟨hr, rfl⟩ hF hb (due w ns hlen bits)

/-! ### names of the module -/
section
variable {X : Cx} {ds : DE} {m : MS} {e a b c tg elt iter : Expr} {es : List Expr} {pos : Pos}
theorem ee_gint {x : Str} {i : Int} (h : ∃ t, X.mg x = some (.int i t)) (hg : Gl X x := by rfl) (hd : (x == ("__debug__" : Str)) = false := by decide) : EE X (.Name x pos) ds (I i) := let ⟨t, h⟩ := h; ee_glob (v := .int i) h ⟨t, rfl⟩ (fun _ => .py (.int i)) hg hd
theorem ee_gstr {x : Str} {l : List Nat} (h : ∃ t, X.mg x = some (.str ⟨l.toArray⟩ t)) (hg : Gl X x := by rfl) (hd : (x == ("__debug__" : Str)) = false := by decide) : EE X (.Name x pos) ds (S l) := let ⟨t, h⟩ := h; ee_glob (v := .str ⟨l.toArray⟩) h ⟨t, rfl⟩ (fun _ => .py (.str _)) hg hd
theorem ee_gdat {x : Str} {d : PyData} (h : ∃ f, X.mg x = some (.ref f) ∧ ∀ G, DS X.K G (.ref f) (.py d)) (hg : Gl X x := by rfl) (hd : (x == ("__debug__" : Str)) = false := by decide) : EE X (.Name x pos) ds (.py d) := let ⟨f, h, k⟩ := h; ee_glob (v := .ref f) h rfl k hg hd

/-! ### comprehensions that are functions of data -/
/-- [elt for x in l] by a name, no filter -/
theorem ee_lcm {α : Type} {j : Nat} {x : Str} {tpos : Pos} {scope : Scope} (l : List α) (g : α → SD) (h : α → PyData) (own : List (Str × Nat)) (ho : own.map (·.2) = [j]) (hN : X.N.Nodup) (hi : EI X (.Name x tpos) iter ds (l.map g)) (hl : l.length ≤ 1000000)
    (turn : ∀ a ∈ l, AllBlk X scope fun Y => EE Y elt ((ds.set j none).set j (some (g a))) (.py (h a)))
    (wg : ∀ s H C cl fp d (ds : DE) m (Q : DE → MS → Prop), Q (ds.set j (some d)) m → WG (Blk X scope s H C cl fp) (.Name x tpos) [j] d ds m Q)
    (ok : BlkOk X.N X.env.scope scope own) (hc : X.calm = true := by rfl) (hs : ∀ x, foldedSetIterable iter X.env x = pure x := by intro _; rfl) : EE X (.ListComp elt [⟨.Name x tpos, iter, [], 0⟩] scope pos) ds (Ls (l.map h)) := fun m =>
  we_lc own hN (hi.to ⟨by rw [List.length_map]; exact hl, fun i acc m' => acc = (l.take i).map h ∧ m' = m, ⟨rfl, rfl⟩, fun i y acc m' hy _ ⟨e1, e2⟩ => by
    subst e1 e2
    rw [ho]
    rw [List.getElem?_map] at hy
    cases q : l[i]? with
    | none => rw [q] at hy; cases hy
    | some a =>
      rw [q] at hy
      have hy : g a = y := Option.some.inj hy
      subst hy
      refine fun s H C cl fp => wg _ _ _ _ _ _ _ _ _ fun s H C cl fp => wts_nil ?_
      rw [if_pos rfl]
      refine fun s H C cl fp => (turn a (List.mem_of_getElem? q) s H C cl fp).to ⟨_, rfl, ?_, rfl⟩
      rw [List.take_add_one, q, List.map_append]
      rfl, fun acc m' _ ⟨e1, e2⟩ => by
    rw [List.length_map, List.take_length] at e1
    exact ⟨by rw [e1], e2⟩⟩) ok hc hs
/-- [elt for x in l if t] -/
theorem ee_lcf {α : Type} {j : Nat} {x : Str} {tpos : Pos} {scope : Scope} (l : List α) (g : α → SD) (p : α → Bool) (h : α → PyData) (own : List (Str × Nat)) (ho : own.map (·.2) = [j]) (hN : X.N.Nodup) (hi : EI X (.Name x tpos) iter ds (l.map g)) (hl : l.length ≤ 1000000)
    (test : ∀ a ∈ l, AllBlk X scope fun Y => ET Y c ((ds.set j none).set j (some (g a))) (p a))
    (turn : ∀ a ∈ l, p a = true → AllBlk X scope fun Y => EE Y elt ((ds.set j none).set j (some (g a))) (.py (h a)))
    (wg : ∀ s H C cl fp d (ds : DE) m (Q : DE → MS → Prop), Q (ds.set j (some d)) m → WG (Blk X scope s H C cl fp) (.Name x tpos) [j] d ds m Q)
    (ok : BlkOk X.N X.env.scope scope own) (hc : X.calm = true := by rfl) (hs : ∀ x, foldedSetIterable iter X.env x = pure x := by intro _; rfl) : EE X (.ListComp elt [⟨.Name x tpos, iter, [c], 0⟩] scope pos) ds (Ls ((l.filter p).map h)) := fun m =>
  we_lc own hN (hi.to ⟨by rw [List.length_map]; exact hl, fun i acc m' => acc = ((l.take i).filter p).map h ∧ m' = m, ⟨rfl, rfl⟩, fun i y acc m' hy _ ⟨e1, e2⟩ => by
    subst e1 e2
    rw [ho]
    rw [List.getElem?_map] at hy
    cases q : l[i]? with
    | none => rw [q] at hy; cases hy
    | some a =>
      rw [q] at hy
      have hy : g a = y := Option.some.inj hy
      subst hy
      have hm := List.mem_of_getElem? q
      refine fun s H C cl fp => wg _ _ _ _ _ _ _ _ _ fun s H C cl fp => wts_one ((test a hm s H C cl fp).to ?_)
      cases z : p a with
      | true =>
        rw [if_pos rfl]
        refine fun s H C cl fp => (turn a hm z s H C cl fp).to ⟨_, rfl, ?_, rfl⟩
        rw [List.take_add_one, q, List.filter_append, List.map_append]
        show _ = _ ++ ([a].filter p).map h
        rw [List.filter_cons_of_pos z]
        rfl
      | false =>
        rw [if_neg Bool.false_ne_true]
        refine ⟨?_, rfl⟩
        rw [List.take_add_one, q, List.filter_append, List.map_append]
        show _ = _ ++ ([a].filter p).map h
        rw [List.filter_cons_of_neg (by rw [z]; exact Bool.false_ne_true)]
        simp, fun acc m' _ ⟨e1, e2⟩ => by
    rw [List.length_map, List.take_length] at e1
    exact ⟨by rw [e1], e2⟩⟩) ok hc hs
end
/-! ### pieces of lists of data -/
theorem cut_map {α β : Type} (f : α → β) (l : List α) (lo hi : Option Int) : cut (l.map f) lo hi = (cut l lo hi).map f := by
  unfold cut
  rw [List.length_map, List.map_take, List.map_drop]
/-! ### dict(pairs): owned -/
section
variable {X : Cx} {ds : DE} {m : MS} {e : Expr} {pos p : Pos}
theorem dpa_pairs {K : PySem.W.Frag} {G : Hp} : ∀ {l : List (Int × PyData)} {vs : List V}, DpAll K G vs (l.map fun q => PyData.tuple [.int q.1, q.2]) → ∃ (ps : List Addr) (kvs : List (Key × V)), vs = ps.map V.ref ∧ Paired (fun p (kv : Key × V) => SqT K G p [kV kv.1, kv.2]) ps kvs ∧ kvs.map (·.1) = l.map (fun q => (Sum.inl q.1 : Key)) ∧ DpAll K G (kvs.map (·.2)) (l.map (·.2))
  | [], _, h => by
    cases h
    exact ⟨[], [], rfl, .nil, rfl, .nil⟩
  | q :: l, _, h => by
    cases h with
    | cons h1 h2 =>
      obtain ⟨ps, kvs, e1, e2, e3, e4⟩ := dpa_pairs h2
      cases h1 with
      | tup t1 t2 =>
        cases t2 with
        | cons u1 u2 =>
          cases u1
          cases u2 with
          | cons u2 u3 =>
            cases u3
            exact ⟨_ :: ps, (Sum.inl q.1, _) :: kvs, by rw [e1]; rfl, .cons t1 e2, by rw [List.map_cons, List.map_cons, e3], .cons u2 e4⟩
end
end W9
namespace W9
open PySem PySem.Spec PyProof.Rows L2
/-! ### cells: texts of digits below sixteen -/
def dig (w : Nat) : Nat := if w < 10 then 48 + w else 87 + w
abbrev C (ws : List Nat) : SD := S (ws.map dig)
def Ok (ws : List Nat) : Prop := ∀ w ∈ ws, w < 16
abbrev hexS : List Nat := [48, 49, 50, 51, 52, 53, 54, 55, 56, 57, 97, 98, 99, 100, 101, 102]
theorem hex_get {w : Nat} (h : w < 16) : hexS[w]? = some (dig w) := by
  have : ∀ w < 16, hexS[w]? = some (dig w) := by decide
  exact this w h
theorem hex_mem {w : Nat} (h : w < 16) : dig w ∈ hexS := List.mem_of_getElem? (hex_get h)
theorem dig_inj {a b : Nat} (ha : a < 16) (hb : b < 16) (h : dig a = dig b) : a = b := by
  unfold dig at h
  split at h <;> split at h <;> omega
theorem dig_lt {a b : Nat} (ha : a < 16) (hb : b < 16) : dig a < dig b ↔ a < b := by
  unfold dig
  split <;> split <;> omega
theorem map_dig_inj {a b : List Nat} (ha : Ok a) (hb : Ok b) (h : a.map dig = b.map dig) : a = b := by
  induction a generalizing b with
  | nil => cases b with
    | nil => rfl
    | cons y b => simp at h
  | cons x a ih => cases b with
    | nil => simp at h
    | cons y b =>
      rw [List.map_cons, List.map_cons] at h
      injection h with h1 h2
      rw [dig_inj (ha x List.mem_cons_self) (hb y List.mem_cons_self) h1, ih (fun w hw => ha w (List.mem_cons_of_mem _ hw)) (fun w hw => hb w (List.mem_cons_of_mem _ hw)) h2]
theorem Ok.app {a b : List Nat} (ha : Ok a) (hb : Ok b) : Ok (a ++ b) := fun w hw => (List.mem_append.mp hw).elim (ha w) (hb w)
theorem Ok.tk {a : List Nat} (n : Nat) (ha : Ok a) : Ok (a.take n) := fun w hw => ha w (List.mem_of_mem_take hw)
theorem Ok.dp {a : List Nat} (n : Nat) (ha : Ok a) : Ok (a.drop n) := fun w hw => ha w (List.mem_of_mem_drop hw)
theorem Ok.nil : Ok [] := fun w hw => nomatch hw
theorem Ok.one {w : Nat} (h : w < 16) : Ok [w] := fun x hx => by
  rw [List.mem_singleton] at hx; omega
theorem Ok.rep {w n : Nat} (h : w < 16) : Ok (List.replicate n w) := fun x hx => by
  have := List.eq_of_mem_replicate hx; omega
theorem Ok.get {a : List Nat} {i w : Nat} (h : Ok a) (e : a[i]? = some w) : w < 16 := h w (List.mem_of_getElem? e)
theorem Ok.tail {x : Nat} {a : List Nat} (h : Ok (x :: a)) : Ok a := fun w hw => h w (List.mem_cons_of_mem _ hw)
theorem Ok.head {x : Nat} {a : List Nat} (h : Ok (x :: a)) : x < 16 := h x List.mem_cons_self
/-! ### numbers of cells -/
def num (ws : List Nat) : Nat := ws.foldl (fun a w => a * 16 + w) 0
/-- the last k cells of a number -/
def digs : Nat → Nat → List Nat
  | 0, _ => []
  | k + 1, n => (n / 16 ^ k % 16) :: digs k n
theorem digs_length (k n : Nat) : (digs k n).length = k := by
  induction k with
  | zero => rfl
  | succ k ih => show (digs k n).length + 1 = _; rw [ih]
theorem digs_ok (k n : Nat) : Ok (digs k n) := by
  induction k with
  | zero => exact Ok.nil
  | succ k ih =>
    intro w hw
    rcases List.mem_cons.mp hw with h | h
    · rw [h]; exact Nat.mod_lt _ (by decide)
    · exact ih w h
theorem num_app (ws : List Nat) (w : Nat) : num (ws ++ [w]) = num ws * 16 + w := by unfold num; rw [List.foldl_append]; rfl
theorem fold_num : ∀ (ws : List Nat) (a : Nat), ws.foldl (fun a w => a * 16 + w) a = a * 16 ^ ws.length + num ws
  | [], a => by show a = a * 1 + 0; omega
  | w :: ws, a => by
    unfold num
    rw [List.foldl_cons, List.foldl_cons, fold_num ws, fold_num ws (0 * 16 + w), List.length_cons, Nat.pow_succ]
    simp only [Nat.add_mul, Nat.zero_mul, Nat.zero_add, Nat.mul_assoc, Nat.mul_comm (16 ^ ws.length) 16, Nat.add_assoc]
theorem num_cons (w : Nat) (ws : List Nat) : num (w :: ws) = w * 16 ^ ws.length + num ws := by
  show ws.foldl _ (0 * 16 + w) = _
  rw [fold_num, Nat.zero_mul, Nat.zero_add]
theorem num_lt {ws : List Nat} (h : Ok ws) : num ws < 16 ^ ws.length := by
  induction ws with
  | nil => decide
  | cons w ws ih =>
    rw [num_cons, List.length_cons, Nat.pow_succ]
    have h1 := ih h.tail
    have h2 := h.head
    have h3 : w * 16 ^ ws.length ≤ 15 * 16 ^ ws.length := Nat.mul_le_mul_right _ (by omega)
    omega
theorem num_digs (k n : Nat) : num (digs k n) = n % 16 ^ k := by
  induction k with
  | zero => show 0 = _; omega
  | succ k ih =>
    show num ((n / 16 ^ k % 16) :: digs k n) = _
    rw [num_cons, digs_length, ih, Nat.pow_succ, Nat.mod_mul, Nat.mul_comm]
    omega
theorem digs_mod (k n : Nat) : ∀ j, k ≤ j → digs k (n % 16 ^ j) = digs k n := by
  induction k with
  | zero => intro j _; rfl
  | succ k ih =>
    intro j hj
    show (n % 16 ^ j / 16 ^ k % 16) :: digs k (n % 16 ^ j) = (n / 16 ^ k % 16) :: digs k n
    rw [ih j (by omega)]
    congr 1
    obtain ⟨i, rfl⟩ : ∃ i, j = k + 1 + i := ⟨j - (k + 1), by omega⟩
    rw [Nat.pow_add, Nat.pow_succ, Nat.mul_assoc, Nat.mod_mul_right_div_self, Nat.mod_mul_right_mod]
theorem digs_num {ws : List Nat} (h : Ok ws) : digs ws.length (num ws) = ws := by
  induction ws with
  | nil => rfl
  | cons w ws ih =>
    have h1 := num_lt h.tail
    have h2 := h.head
    show (num (w :: ws) / 16 ^ ws.length % 16) :: digs ws.length (num (w :: ws)) = w :: ws
    have e1 : num (w :: ws) / 16 ^ ws.length % 16 = w := by
      rw [num_cons, Nat.mul_comm, Nat.mul_add_div (Nat.pow_pos (by decide)), Nat.div_eq_of_lt h1]
      omega
    have e2 : digs ws.length (num (w :: ws)) = ws := by
      rw [← digs_mod ws.length (num (w :: ws)) ws.length (Nat.le_refl _), num_cons, Nat.mul_comm, Nat.mul_add_mod, Nat.mod_eq_of_lt h1, ih h.tail]
    rw [e1, e2]
/-- the next cell of a number, from behind -/
theorem digs_step (k n : Nat) : digs (k + 1) n = (n / 16 ^ k % 16) :: digs k n := rfl
theorem div_step (k n : Nat) : n / 16 ^ k / 16 = n / 16 ^ (k + 1) := by rw [Nat.div_div_eq_div_mul, Nat.pow_succ]
/-! ### sums -/
def sumW (f : Nat → Nat) : Nat → List Nat → Nat
  | _, [] => 0
  | i, w :: ws => (15 - w) * f i + sumW f (i + 1) ws
theorem sumW_app (f : Nat → Nat) : ∀ (i : Nat) (a b : List Nat), sumW f i (a ++ b) = sumW f i a + sumW f (i + a.length) b
  | i, [], b => by show _ = 0 + sumW f (i + 0) b; rw [Nat.zero_add]; rfl
  | i, w :: a, b => by
    show (15 - w) * f i + sumW f (i + 1) (a ++ b) = (15 - w) * f i + sumW f (i + 1) a + sumW f (i + (a.length + 1)) b
    rw [sumW_app f (i + 1) a b, Nat.add_assoc (_ * _), Nat.add_assoc i 1, Nat.add_comm 1 a.length]
abbrev f0 : Nat → Nat := fun _ => 1
abbrev f1 : Nat → Nat := fun i => i + 1
abbrev f2 : Nat → Nat := fun i => (i + 1) * (i + 1)
theorem sumW_take {f : Nat → Nat} {ws : List Nat} {i w : Nat} (h : ws[i]? = some w) : sumW f 0 (ws.take (i + 1)) = sumW f 0 (ws.take i) + (15 - w) * f i := by
  rw [List.take_add_one, h, sumW_app, List.length_take]
  have hl := (List.getElem?_eq_some_iff.mp h).1
  rw [Nat.min_eq_left (by omega), Nat.zero_add]
  rfl
theorem sumW_le {f : Nat → Nat} {b : Nat} : ∀ (i : Nat) (ws : List Nat), (∀ j, j < i + ws.length → f j ≤ b) → sumW f i ws ≤ ws.length * (15 * b)
  | _, [], _ => by show 0 ≤ _; omega
  | i, w :: ws, h => by
    show (15 - w) * f i + sumW f (i + 1) ws ≤ (ws.length + 1) * (15 * b)
    have h1 := sumW_le (i + 1) ws fun j hj => h j (by rw [List.length_cons]; omega)
    have h2 : (15 - w) * f i ≤ 15 * b := Nat.mul_le_mul (by omega) (h i (by rw [List.length_cons]; omega))
    rw [Nat.add_mul]
    omega
/-! ### steps on cells -/
section
variable {X : Cx} {m : MS} {ds : DE} {e : Expr} {pos : Pos}
theorem C_len (ws : List Nat) : (ws.map dig).length = ws.length := List.length_map ..
theorem bd_addC {a b : List Nat} (h : a.length + b.length ≤ 1000000) : BinD X .Add (C a) (C b) (C (a ++ b)) := by
  have z : BinD X .Add (C a) (C b) (S (a.map dig ++ b.map dig)) := bd_addS (by rw [C_len, C_len]; exact h)
  rw [← List.map_append] at z
  exact z
theorem rep_map (n : Nat) (l : List Nat) : rep n (l.map dig) = (rep n l).map dig := by
  unfold rep
  rw [List.map_flatten, List.map_replicate]
theorem bd_mulC {l : List Nat} {n : Int} (h : n ≤ 1000000 ∧ -1000000 ≤ n ∧ l.length * n.toNat ≤ 1000000) : BinD X .Mult (C l) (I n) (C (rep n.toNat l)) := by
  have z : BinD X .Mult (C l) (I n) (S (rep n.toNat (l.map dig))) := bd_mulS (by rw [C_len]; exact h)
  rw [rep_map] at z
  exact z
theorem rep_one (n w : Nat) : rep n [w] = List.replicate n w := by
  unfold rep
  induction n with
  | zero => rfl
  | succ n ih => rw [List.replicate_succ, List.flatten_cons, ih]; rfl
theorem sl_C {l : List Nat} {lo hi : Option Int} (hz : l.length ≤ 1000000) : SlD X m (C l) lo hi (C (cut l lo hi)) := by
  have z : SlD X m (C l) lo hi (S (cut (l.map dig) lo hi)) := sl_S (by rw [C_len]; exact hz)
  rw [cut_map] at z
  exact z
theorem sl_Cnn {l : List Nat} {a b : Nat} (hz : l.length ≤ 1000000) : SlD X m (C l) (some (a : Int)) (some (b : Int)) (C ((l.drop a).take (b - a))) := by rw [← cut_nn]; exact sl_C hz
theorem sl_Cn0 {l : List Nat} {a : Nat} (hz : l.length ≤ 1000000) : SlD X m (C l) (some (a : Int)) none (C (l.drop a)) := by rw [← cut_n0]; exact sl_C hz
theorem sl_C0n {l : List Nat} {b : Nat} (hz : l.length ≤ 1000000) : SlD X m (C l) none (some (b : Int)) (C (l.take b)) := by rw [← cut_0n]; exact sl_C hz
theorem sd_C {l : List Nat} {i : Nat} {w : Nat} (h : l[i]? = some w) (hz : l.length ≤ 1000000) : SubD X m (C l) (I (i : Int)) (C [w]) := sd_str (at_nn (by omega) (by rw [Int.toNat_natCast, List.getElem?_map, h]; rfl)) (by rw [C_len]; exact hz)
theorem sd_Ci {l : List Nat} {i : Int} {w : Nat} (h0 : 0 ≤ i) (h : l[i.toNat]? = some w) (hz : l.length ≤ 1000000) : SubD X m (C l) (I i) (C [w]) := sd_str (at_nn h0 (by rw [List.getElem?_map, h]; rfl)) (by rw [C_len]; exact hz)
/-- the table's i-th sign -/
theorem sd_hex {i : Int} {w : Nat} (h : i = (w : Int)) (hw : w < 16) : SubD X m (S hexS) (I i) (C [w]) := by
  subst h
  exact sd_str (at_nn (by omega) (by rw [Int.toNat_natCast, hex_get hw])) (by decide)
theorem ei_cells {tg : Expr} {ws : List Nat} (h : EE X e ds (C ws)) : EI X tg e ds (ws.map fun w => C [w]) := by
  have z := ei_str (tg := tg) h
  rw [List.map_map] at z
  exact z
theorem zipIdx_map' {α β : Type} (f : α → β) : ∀ (l : List α) (k : Nat), (l.map f).zipIdx k = (l.zipIdx k).map fun q => (f q.1, q.2)
  | [], _ => rfl
  | a :: l, k => by
    show (f a, k) :: (l.map f).zipIdx (k + 1) = (f a, k) :: (l.zipIdx (k + 1)).map _
    rw [zipIdx_map' f l (k + 1)]
theorem asc_C {ws : List Nat} (h : Ok ws) : (ws.map dig).all (· < 128) = true := by
  rw [List.all_eq_true]
  intro c hc
  obtain ⟨w, hw, rfl⟩ := List.mem_map.mp hc
  have := h w hw
  unfold dig
  rw [decide_eq_true_eq]
  split <;> omega
theorem ei_enumC {p tpos : Pos} {elts : List Expr} {kk : Nat} {ws : List Nat} (h : EE X e ds (C ws)) (ho : Ok ws) (hm : X.mg "enumerate" = none) (hg : Gl X "enumerate" := by rfl) (hs : starEach [e] X.env = [(false, eval e X.env)] := by rfl) :
    EI X (.Tuple elts kk tpos) (.Call (.Name "enumerate" p) [e] [] pos) ds (ws.zipIdx.map fun q => Tp [.int (q.2 : Nat), .str ⟨([q.1].map dig).toArray⟩]) := by
  have z := ei_enumS (elts := elts) (kk := kk) (tpos := tpos) (p := p) (pos := pos) h (asc_C ho) hm hg hs
  rw [zipIdx_map', List.map_map] at z
  exact z
theorem cd_eqC {a b : List Nat} (ha : Ok a) (hb : Ok b) : CmpD X .Eq (C a) (C b) (decide (a = b)) := by
  have z : CmpD X .Eq (C a) (C b) (decide (a.map dig = b.map dig)) := cd_eqS
  rw [decide_eq_decide.mpr ⟨map_dig_inj ha hb, fun h => by rw [h]⟩] at z
  exact z
theorem cd_neC {a b : List Nat} (ha : Ok a) (hb : Ok b) : CmpD X .NotEq (C a) (C b) (!decide (a = b)) := by
  have z : CmpD X .NotEq (C a) (C b) (!decide (a.map dig = b.map dig)) := cd_neS
  rw [decide_eq_decide.mpr ⟨map_dig_inj ha hb, fun h => by rw [h]⟩] at z
  exact z
theorem hex_occ : ∀ w < 16, Builtin.Str.occurrences ⟨hexS.toArray⟩ ⟨#[dig w]⟩ 0 (⟨hexS.toArray⟩ : Str).length 1 = [w] := by decide +kernel
theorem md_hex {w : Nat} (h : w < 16) : MtD X "str" "str.index" m (S hexS) [C [w]] (I w) := md_index (hex_occ w h)
theorem ca_lenC {ws : List Nat} (hz : ws.length ≤ 1000000) : CaD X (.builtin "len") m [C ws] (I ws.length) := by
  have z : CaD X (.builtin "len") m [C ws] (I (ws.map dig).length) := ca_lenS (by rw [C_len]; exact hz)
  rw [C_len] at z
  exact z
theorem flat_one (ls : List (List Nat)) : joinL [] ls = ls.flatten := joinL_nil ls
theorem md_joinC {ls : List (List Nat)} (hz : (ls.map List.length).sum ≤ 1000000) : MtD X "str" "str.join" m (S []) [Ls (txts (ls.map fun l => l.map dig))] (C ls.flatten) := by
  have z : MtD X "str" "str.join" m (S []) [Ls (txts (ls.map fun l => l.map dig))] (S (joinL [] (ls.map fun l => l.map dig))) := md_join (by
    rw [List.map_map]
    have e : (ls.map (List.length ∘ fun l => l.map dig)) = ls.map List.length := List.map_congr_left fun l _ => List.length_map ..
    rw [e]
    simpa using hz)
  rw [joinL_nil] at z
  have e : (ls.map fun l => l.map dig).flatten = ls.flatten.map dig := by rw [List.map_flatten]
  rw [e] at z
  exact z
end
end W9
namespace W9
open PySem PySem.Spec PyProof.Rows L2
theorem map_get {α β : Type} {l : List α} {f : α → β} {i : Nat} {x : β} (h : (l.map f)[i]? = some x) : ∃ a, l[i]? = some a ∧ x = f a := by
  rw [List.getElem?_map] at h
  cases q : l[i]? with
  | none => rw [q] at h; cases h
  | some a => rw [q] at h; exact ⟨a, rfl, (Option.some.inj h).symm⟩
theorem map_zip_get {α β : Type} {l : List α} {f : α × Nat → β} {i : Nat} {x : β} (h : (l.zipIdx.map f)[i]? = some x) : ∃ a, l[i]? = some a ∧ x = f (a, i) := by
  obtain ⟨a, h1, h2⟩ := map_get h
  rw [List.getElem?_zipIdx] at h1
  cases q : l[i]? with
  | none => rw [q] at h1; cases h1
  | some b =>
    rw [q] at h1
    have e : (b, 0 + i) = a := Option.some.inj h1
    subst e
    exact ⟨b, rfl, by rw [h2, Nat.zero_add]⟩
theorem I_eq {a b : Int} (h : a = b) : I a = I b := by rw [h]
theorem C_eq {a b : List Nat} (h : a = b) : C a = C b := by rw [h]
theorem S_eq {a b : List Nat} (h : a = b) : S a = S b := by rw [h]
theorem B_eq {a b : Bool} (h : a = b) : B a = B b := by rw [h]
theorem get_lt {α : Type} {l : List α} {i : Nat} {a : α} (h : l[i]? = some a) : i < l.length := (List.getElem?_eq_some_iff.mp h).1
theorem flat_sing {α β : Type} (f : α → β) : ∀ l : List α, (l.map fun a => [f a]).flatten = l.map f
  | [] => rfl
  | a :: l => by rw [List.map_cons, List.flatten_cons, flat_sing f l]; rfl
section
variable {X : Cx} {m : MS} {ds : DE} {e : Expr} {pos : Pos}
theorem sd_hexM {a : Nat} : SubD X m (S hexS) (I ((a : Int) % 16)) (C [a % 16]) := sd_hex (by omega) (Nat.mod_lt _ (by decide))
theorem sd_hexT {w : Nat} (h : w < 16) : SubD X m (S hexS) (I (15 - (w : Int))) (C [15 - w]) := sd_hex (by omega) (by omega)
theorem md_joinCf {α : Type} {l : List α} {f : α → List Nat} {k : Nat} (hk : ∀ a ∈ l, (f a).length ≤ k) (hz : l.length * k ≤ 1000000) : MtD X "str" "str.join" m (S []) [Ls (l.map fun a => PyData.str ⟨((f a).map dig).toArray⟩)] (C (l.map f).flatten) := by
  have z : MtD X "str" "str.join" m (S []) [Ls (txts ((l.map f).map fun l => l.map dig))] (C (l.map f).flatten) := md_joinC (by
    refine Nat.le_trans ?_ hz
    clear hz
    induction l with
    | nil => exact Nat.zero_le _
    | cons a l ih =>
      rw [List.map_cons, List.map_cons, List.sum_cons, List.length_cons, Nat.succ_mul]
      have h1 := ih fun b hb => hk b (List.mem_cons_of_mem _ hb)
      have h2 := hk a List.mem_cons_self
      omega)
  rw [List.map_map] at z
  unfold txts at z
  rw [List.map_map] at z
  exact z
theorem md_joinC1 {α : Type} {l : List α} {f : α → Nat} (hz : l.length ≤ 1000000) : MtD X "str" "str.join" m (S []) [Ls (l.map fun a => PyData.str ⟨([f a].map dig).toArray⟩)] (C (l.map f)) := by
  have z := md_joinCf (X := X) (m := m) (l := l) (f := fun a => [f a]) (k := 1) (fun _ _ => Nat.le_refl _) (by omega)
  rw [flat_sing] at z
  exact z
theorem ca_allm (hc : X.calm = true) {α : Type} {l : List α} {p : α → Bool} : CaD X (.builtin "all") m [Ls (l.map fun a => PyData.bool (p a))] (B (l.all p)) := by
  have z : CaD X (.builtin "all") m [Ls ((l.map p).map .bool)] (B ((l.map p).all id)) := ca_all hc
  rw [List.map_map, List.all_map] at z
  exact z
theorem cd_inHex {w : Nat} (h : w < 16) : CmpD X .In (C [w]) (S hexS) true := by
  have z : CmpD X .In (S [dig w]) (S hexS) (decide (dig w ∈ hexS)) := cd_inS
  rw [decide_eq_true (hex_mem h)] at z
  exact z
end
section
variable {X : Cx} {m : MS} {ds : DE} {e c : Expr} {pos : Pos}
theorem ws_retE {E : ED} {d : SD} (h : EE X e ds d) (p : E.rt d m) : WS X (.Return (some e) pos) ds m E := ws_ret (h.to p)
theorem ws_setE {i : Nat} {x : Str} {pos' : Pos} {E : ED} {d : SD} (hN : X.N.Nodup) (h : EE X e ds d) (p : E.nx (ds.set i (some d)) m) (hi : X.N[i]? = some x := by rfl) (hx : Loc X.env.scope x := by first | exact Or.inl rfl | exact Or.inr rfl)
    (hs : swapsWith e (some (.Name x pos')) pos.line X.env = pure false := by rfl) (hf : X.fn x = true ∨ X.env.scope.names.lookup x = some .local := by first | exact .inl rfl | exact .inr rfl | assumption) : WS X (.Assign [.Name x pos'] e pos) ds m E :=
  ws_set hN (h.to p) hi hx hs hf
end
/-! ### page tails -/
abbrev cmpl (ws : List Nat) : List Nat := ws.map (15 - ·)
theorem cmpl_ok {ws : List Nat} : Ok (cmpl ws) := fun w hw => by
  obtain ⟨a, _, rfl⟩ := List.mem_map.mp hw
  omega
def tw (k n : Nat) : List Nat := digs k n ++ cmpl (digs k n)
theorem tw_length (k n : Nat) : (tw k n).length = 2 * k := by
  unfold tw
  rw [List.length_append, List.length_map, digs_length]
  omega
theorem tw_ok (k n : Nat) : Ok (tw k n) := (digs_ok k n).app cmpl_ok
def tailOf (a b c : Nat) : List Nat := tw 3 a ++ (tw 5 b ++ tw 7 c)
theorem tailOf_length (a b c : Nat) : (tailOf a b c).length = 30 := by
  unfold tailOf
  rw [List.length_append, List.length_append, tw_length, tw_length, tw_length]
theorem tailOf_ok (a b c : Nat) : Ok (tailOf a b c) := (tw_ok _ _).app ((tw_ok _ _).app (tw_ok _ _))
abbrev s0 (ws : List Nat) : Nat := sumW f0 0 (ws.take 226)
abbrev s1 (ws : List Nat) : Nat := sumW f1 0 (ws.take 226)
abbrev s2 (ws : List Nat) : Nat := sumW f2 0 (ws.take 226)
theorem sum_cast {a w k : Nat} (h : w < 16) : ((a + (15 - w) * k : Nat) : Int) = (a : Int) + (15 - (w : Int)) * (k : Int) := by
  rw [Int.natCast_add, Int.natCast_mul]
  have e : ((15 - w : Nat) : Int) = 15 - (w : Int) := by omega
  rw [e]
section
variable {ws : List Nat} {i w : Nat}
theorem sum_t0 (h : ws[i]? = some w) (hw : w < 16) : ((sumW f0 0 (ws.take (i + 1)) : Nat) : Int) = (sumW f0 0 (ws.take i) : Nat) + (15 - (w : Int)) := by
  rw [sumW_take h, sum_cast hw]
  show _ + _ * ((1 : Nat) : Int) = _
  rw [Int.natCast_one, Int.mul_one]
theorem sum_t1 (h : ws[i]? = some w) (hw : w < 16) : ((sumW f1 0 (ws.take (i + 1)) : Nat) : Int) = (sumW f1 0 (ws.take i) : Nat) + (15 - (w : Int)) * ((i : Int) + 1) := by
  rw [sumW_take h, sum_cast hw]
  rfl
theorem sum_t2 (h : ws[i]? = some w) (hw : w < 16) : ((sumW f2 0 (ws.take (i + 1)) : Nat) : Int) = (sumW f2 0 (ws.take i) : Nat) + (15 - (w : Int)) * ((i : Int) + 1) * ((i : Int) + 1) := by
  rw [sumW_take h, sum_cast hw]
  show _ + _ * (((i + 1) * (i + 1) : Nat) : Int) = _
  rw [Int.natCast_mul, ← Int.mul_assoc]
  rfl
end
end W9
namespace W9
open PySem PySem.Spec PyProof.Rows L2
/-! ### signs of pages -/
def al (c : Nat) : Bool := c == 10 || (decide (32 ≤ c) && decide (c ≤ 36)) || (decide (38 ≤ c) && decide (c ≤ 126))
abbrev lowS : List Nat := [32, 33, 34, 35, 36]
abbrev highS : List Nat := [38, 39, 40, 41, 42, 43, 44, 45, 46, 47, 48, 49, 50, 51, 52, 53, 54, 55, 56, 57, 58, 59, 60, 61, 62, 63, 64, 65, 66, 67, 68, 69, 70, 71, 72, 73, 74, 75, 76, 77, 78, 79, 80, 81, 82, 83, 84, 85, 86, 87, 88, 89, 90, 91, 92, 93, 94, 95, 96, 97, 98, 99, 100, 101, 102, 103, 104, 105, 106, 107, 108, 109, 110, 111, 112, 113, 114, 115, 116, 117, 118, 119, 120, 121, 122, 123, 124, 125, 126]
theorem al_iff {c : Nat} : al c = true ↔ c = 10 ∨ (32 ≤ c ∧ c ≤ 36) ∨ (38 ≤ c ∧ c ≤ 126) := by
  unfold al
  simp only [Bool.or_eq_true, Bool.and_eq_true, decide_eq_true_eq, beq_iff_eq]
  omega
theorem al_lt {c : Nat} (h : al c = true) : c < 127 := by
  rw [al_iff] at h; omega
theorem low_mem {c : Nat} : c ∈ lowS ↔ 32 ≤ c ∧ c ≤ 36 := by
  simp only [lowS, List.mem_cons, List.not_mem_nil, or_false]; omega
theorem high_mem {c : Nat} : c ∈ highS ↔ 38 ≤ c ∧ c ≤ 126 := by
  constructor
  · intro h
    have : ∀ x ∈ highS, 38 ≤ x ∧ x ≤ 126 := by decide
    exact this c h
  · intro ⟨h1, h2⟩
    have : ∀ x, x < 127 → 38 ≤ x → x ∈ highS := by decide
    exact this c (by omega) h1
theorem low_occ : ∀ c < 127, 32 ≤ c → c ≤ 36 → Builtin.Str.occurrences ⟨lowS.toArray⟩ ⟨#[c]⟩ 0 (⟨lowS.toArray⟩ : Str).length 1 = [c - 32] := by decide +kernel
theorem high_occ : ∀ c < 127, 38 ≤ c → c ≤ 126 → Builtin.Str.occurrences ⟨highS.toArray⟩ ⟨#[c]⟩ 0 (⟨highS.toArray⟩ : Str).length 1 = [c - 38] := by decide +kernel
def OkT (t : List Nat) : Prop := ∀ c ∈ t, al c = true
theorem OkT.cons {c : Nat} {t : List Nat} (h : al c = true) (ht : OkT t) : OkT (c :: t) := fun x hx => by
  rcases List.mem_cons.mp hx with e | e
  · rw [e]; exact h
  · exact ht x e
theorem OkT.snoc {c : Nat} {t : List Nat} (ht : OkT t) (h : al c = true) : OkT (t ++ [c]) := fun x hx => by
  rcases List.mem_append.mp hx with e | e
  · exact ht x e
  · rw [List.mem_singleton] at e; rw [e]; exact h
/-! ### numbers by pairs of cells -/
def enc (t : List Nat) : List Nat := (t.map (digs 2)).flatten
def pairs : List Nat → List Nat
  | a :: b :: r => (a * 16 + b) :: pairs r
  | _ => []
theorem digs2 (c : Nat) : digs 2 c = [c / 16 % 16, c % 16] := by
  show [c / 16 ^ 1 % 16, c / 16 ^ 0 % 16] = _
  rw [Nat.pow_one, Nat.pow_zero, Nat.div_one]
theorem enc_cons (c : Nat) (t : List Nat) : enc (c :: t) = [c / 16 % 16, c % 16] ++ enc t := by
  unfold enc
  rw [List.map_cons, List.flatten_cons, digs2]
theorem enc_app (a b : List Nat) : enc (a ++ b) = enc a ++ enc b := by
  unfold enc
  rw [List.map_append, List.flatten_append]
theorem enc_length (t : List Nat) : (enc t).length = 2 * t.length := by
  induction t with
  | nil => rfl
  | cons c t ih =>
    rw [enc_cons, List.length_append, ih]
    show 2 + 2 * t.length = 2 * (t.length + 1)
    omega
theorem enc_ok (t : List Nat) : Ok (enc t) := by
  induction t with
  | nil => exact Ok.nil
  | cons c t ih =>
    rw [enc_cons]
    refine Ok.app (fun w hw => ?_) ih
    rcases List.mem_cons.mp hw with h | h
    · rw [h]; exact Nat.mod_lt _ (by decide)
    · rw [List.mem_singleton] at h; rw [h]; exact Nat.mod_lt _ (by decide)
theorem pairs_enc {t : List Nat} (h : ∀ c ∈ t, c < 256) : pairs (enc t) = t := by
  induction t with
  | nil => rfl
  | cons c t ih =>
    rw [enc_cons]
    show (c / 16 % 16 * 16 + c % 16) :: pairs (enc t) = _
    have := h c List.mem_cons_self
    rw [ih fun x hx => h x (List.mem_cons_of_mem _ hx)]
    congr 1
    omega
theorem enc_pairs : ∀ {l : List Nat} {n : Nat}, l.length = 2 * n → Ok l → enc (pairs l) = l
  | [], _, _, _ => rfl
  | [a], n, h, _ => by
    have h : 1 = 2 * n := h
    omega
  | a :: b :: r, n, h, ho => by
    have h : r.length + 1 + 1 = 2 * n := h
    show enc ((a * 16 + b) :: pairs r) = _
    have ha := ho.head
    have hb := ho.tail.head
    rw [enc_cons, enc_pairs (n := n - 1) (by omega) ho.tail.tail]
    show (a * 16 + b) / 16 % 16 :: (a * 16 + b) % 16 :: r = _
    have e1 : (a * 16 + b) / 16 % 16 = a := by omega
    have e2 : (a * 16 + b) % 16 = b := by omega
    rw [e1, e2]
theorem pairs_length : ∀ (l : List Nat) (n : Nat), l.length = 2 * n → (pairs l).length = n
  | [], n, h => by
    have h : 0 = 2 * n := h
    show 0 = n; omega
  | [a], n, h => by
    have h : 1 = 2 * n := h
    omega
  | a :: b :: r, n, h => by
    have h : r.length + 1 + 1 = 2 * n := h
    show (pairs r).length + 1 = n
    rw [pairs_length r (n - 1) (by omega)]
    omega
theorem pairs_lt : ∀ {l : List Nat}, Ok l → ∀ c ∈ pairs l, c < 256
  | [], _, c, h => by cases h
  | [a], _, c, h => by cases h
  | a :: b :: r, ho, c, h => by
    rcases List.mem_cons.mp h with e | e
    · have ha := ho.head
      have hb := ho.tail.head
      omega
    · exact pairs_lt ho.tail.tail c e
theorem pairs_get : ∀ {l : List Nat} {i : Nat}, 2 * i + 2 ≤ l.length → (pairs l)[i]? = some (num ((l.drop (2 * i)).take 2))
  | [], i, h => by simp at h
  | [a], i, h => by
    have h : 2 * i + 2 ≤ 1 := h
    omega
  | a :: b :: r, 0, _ => by
    show some (a * 16 + b) = some ((0 * 16 + a) * 16 + b)
    rw [Nat.zero_mul, Nat.zero_add]
  | a :: b :: r, i + 1, h => by
    have h : 2 * (i + 1) + 2 ≤ r.length + 1 + 1 := h
    show (pairs r)[i]? = _
    rw [pairs_get (l := r) (i := i) (by omega)]
    rfl
theorem pairs_drop : ∀ (l : List Nat) (n : Nat), (pairs l).drop n = pairs (l.drop (2 * n))
  | l, 0 => rfl
  | [], n + 1 => by simp [pairs]
  | [a], n + 1 => by
    have e : ([a] : List Nat).drop (2 * (n + 1)) = [] := List.drop_of_length_le (by simp; omega)
    rw [e]
    simp [pairs]
  | a :: b :: r, n + 1 => by
    show (pairs r).drop n = _
    rw [pairs_drop r n]
    rfl
theorem enc_rep (n : Nat) : enc (List.replicate n 255) = List.replicate (2 * n) 15 := by
  induction n with
  | zero => rfl
  | succ n ih =>
    rw [List.replicate_succ, enc_cons, ih]
    rfl
/-! ### a text's cells; the text of cells -/
def cellsOf (t : List Nat) : List Nat := enc t ++ List.replicate (226 - 2 * t.length) 15
theorem cellsOf_length {t : List Nat} (h : t.length ≤ 113) : (cellsOf t).length = 226 := by
  unfold cellsOf
  rw [List.length_append, enc_length, List.length_replicate]
  omega
theorem cellsOf_ok (t : List Nat) : Ok (cellsOf t) := (enc_ok t).app (Ok.rep (by decide))
theorem cellsOf_enc (t : List Nat) : cellsOf t = enc (t ++ List.replicate (113 - t.length) 255) := by
  rw [enc_app, enc_rep]
  unfold cellsOf
  congr 2
  omega
abbrev ps (ws : List Nat) : List Nat := pairs (ws.take 226)
def isT (ws t : List Nat) : Bool := t.all al && decide (ps ws = t ++ List.replicate (113 - t.length) 255)
def dec (ws : List Nat) : Option (List Nat) :=
  let t := (ps ws).takeWhile (· != 255)
  if isT ws t = true then some t else none
theorem ps_length {ws : List Nat} (h : 226 ≤ ws.length) : (ps ws).length = 113 := pairs_length _ 113 (by rw [List.length_take]; omega)
theorem al_ne {c : Nat} (h : al c = true) : (c != 255) = true := by
  have := al_lt h
  simp only [bne_iff_ne, ne_eq]
  omega
theorem takeWhile_rep {t : List Nat} {n : Nat} (h : OkT t) : (t ++ List.replicate n 255).takeWhile (· != 255) = t := by
  induction t with
  | nil =>
    cases n with
    | zero => rfl
    | succ n => rw [List.nil_append, List.replicate_succ, List.takeWhile_cons]; rfl
  | cons c t ih =>
    rw [List.cons_append, List.takeWhile_cons, if_pos (al_ne (h c List.mem_cons_self)), ih fun x hx => h x (List.mem_cons_of_mem _ hx)]
theorem isT_okT {ws t : List Nat} (h : isT ws t = true) : OkT t := fun c hc => by
  unfold isT at h
  rw [Bool.and_eq_true, List.all_eq_true] at h
  exact h.1 c hc
theorem isT_eq {ws t : List Nat} (h : isT ws t = true) : ps ws = t ++ List.replicate (113 - t.length) 255 := by
  unfold isT at h
  rw [Bool.and_eq_true] at h
  exact of_decide_eq_true h.2
theorem isT_mk {ws t : List Nat} (h : OkT t) (e : ps ws = t ++ List.replicate (113 - t.length) 255) : isT ws t = true := by
  unfold isT
  rw [Bool.and_eq_true, List.all_eq_true]
  exact ⟨h, decide_eq_true e⟩
theorem dec_of {ws t : List Nat} (h : isT ws t = true) : dec ws = some t := by
  have e : (ps ws).takeWhile (· != 255) = t := by rw [isT_eq h]; exact takeWhile_rep (isT_okT h)
  show (if isT ws ((ps ws).takeWhile (· != 255)) = true then some ((ps ws).takeWhile (· != 255)) else none) = _
  rw [e, if_pos h]
theorem dec_some {ws t : List Nat} (h : dec ws = some t) : isT ws t = true := by
  have h : (if isT ws ((ps ws).takeWhile (· != 255)) = true then some ((ps ws).takeWhile (· != 255)) else none) = some t := h
  split at h
  · next q => cases h; exact q
  · cases h
theorem dec_none {ws : List Nat} (h : ∀ t, isT ws t ≠ true) : dec ws = none := by
  cases q : dec ws with
  | none => rfl
  | some t => exact absurd (dec_some q) (h t)
theorem isT_len {ws t : List Nat} (hl : 226 ≤ ws.length) (h : isT ws t = true) : t.length ≤ 113 := by
  have e := congrArg List.length (isT_eq h)
  rw [ps_length hl, List.length_append, List.length_replicate] at e
  omega
/-- the text is told by its cells -/
theorem isT_cells {ws t : List Nat} (ho : Ok ws) (hl : 226 ≤ ws.length) (ht : OkT t) (hn : t.length ≤ 113) : isT ws t = true ↔ cellsOf t = ws.take 226 := by
  constructor
  · intro h
    rw [cellsOf_enc, ← isT_eq h]
    exact enc_pairs (n := 113) (by rw [List.length_take]; omega) (ho.tk 226)
  · intro h
    refine isT_mk ht ?_
    unfold ps
    rw [← h, cellsOf_enc]
    refine pairs_enc fun c hc => ?_
    rcases List.mem_append.mp hc with e | e
    · have := al_lt (ht c e); omega
    · have := List.eq_of_mem_replicate e; omega
theorem dec_okT {ws t : List Nat} (h : dec ws = some t) : OkT t := isT_okT (dec_some h)
theorem dec_len {ws t : List Nat} (hl : 226 ≤ ws.length) (h : dec ws = some t) : t.length ≤ 113 := isT_len hl (dec_some h)
theorem dec_cells {ws t : List Nat} (ho : Ok ws) (hl : 226 ≤ ws.length) (h : dec ws = some t) : cellsOf t = ws.take 226 := (isT_cells ho hl (dec_okT h) (dec_len hl h)).mp (dec_some h)
/-- what the scan has found so far -/
theorem dec_scan {ws acc : List Nat} (ho : Ok ws) (hl : 226 ≤ ws.length) (ha : OkT acc) (hp : acc = (ps ws).take acc.length) (he : acc.length = 113 ∨ (ps ws)[acc.length]? = some 255) : dec ws = if cellsOf acc = ws.take 226 then some acc else none := by
  have hn : acc.length ≤ 113 := by
    rcases he with h | h
    · omega
    · have := get_lt h
      rw [ps_length hl] at this
      omega
  by_cases h : cellsOf acc = ws.take 226
  · rw [if_pos h]
    exact dec_of ((isT_cells ho hl ha hn).mpr h)
  · rw [if_neg h]
    refine dec_none fun t ht => h ?_
    have e : (ps ws).takeWhile (· != 255) = acc := by
      have e2 : ps ws = acc ++ (ps ws).drop acc.length := by
        conv => lhs; rw [← List.take_append_drop acc.length (ps ws)]
        rw [← hp]
      rw [e2]
      have e3 : ∀ a : List Nat, OkT a → ∀ r : List Nat, (r = [] ∨ r.head? = some 255) → (a ++ r).takeWhile (· != 255) = a := by
        intro a hh r hr
        induction a with
        | nil =>
          rcases hr with e | e
          · rw [e]; rfl
          · cases r with
            | nil => rfl
            | cons x r => cases e; rfl
        | cons c a ih => rw [List.cons_append, List.takeWhile_cons, if_pos (al_ne (hh c List.mem_cons_self)), ih fun x hx => hh x (List.mem_cons_of_mem _ hx)]
      refine e3 acc ha _ ?_
      rcases he with e | e
      · left
        exact List.drop_of_length_le (by rw [ps_length hl, e]; exact Nat.le_refl _)
      · right
        rw [List.head?_drop]
        exact e
    have e2 := dec_of ht
    have e3 : (if isT ws ((ps ws).takeWhile (· != 255)) = true then some ((ps ws).takeWhile (· != 255)) else none) = some t := e2
    rw [e] at e3
    split at e3
    · cases e3
      exact (isT_cells ho hl ha hn).mp ht
    · cases e3
theorem dec_bad {ws : List Nat} {i n : Nat} (hi : (ps ws)[i]? = some n) (hb : al n = false) (hn : n ≠ 255) : dec ws = none := by
  refine dec_none fun t ht => ?_
  rw [isT_eq ht] at hi
  by_cases h : i < t.length
  · rw [List.getElem?_append_left h] at hi
    have := isT_okT ht n (List.mem_of_getElem? hi)
    rw [hb] at this
    cases this
  · rw [List.getElem?_append_right (by omega)] at hi
    exact hn (List.eq_of_mem_replicate (List.mem_of_getElem? hi))
def optT : Option (List Nat) → PyData
  | none => .none
  | some t => .str ⟨t.toArray⟩
def oneS (n : Nat) : PyData := if al n = true then .str ⟨[n].toArray⟩ else .none
def sealT (t : List Nat) : List Nat := cellsOf t ++ tailOf (s0 (cellsOf t)) (s1 (cellsOf t)) (s2 (cellsOf t))
theorem sealT_length {t : List Nat} (h : t.length ≤ 113) : (sealT t).length = 256 := by
  unfold sealT
  rw [List.length_append, cellsOf_length h, tailOf_length]
theorem sealT_ok (t : List Nat) : Ok (sealT t) := (cellsOf_ok t).app (tailOf_ok _ _ _)
end W9
namespace W9
open PySem PySem.Spec PyProof.Rows L2
section
variable {X : Cx} {m : MS} {ds : DE} {e c a b tg elt iter : Expr} {es : List Expr} {pos : Pos}
theorem mset_head {p : Addr} {u v : OV} (h : p ∉ ad m) : mset ((p, u) :: m) p v = (p, v) :: m := by
  show (if p = p then (p, v) else (p, u)) :: m.map _ = _
  rw [if_pos rfl]
  congr 1
  refine (List.map_congr_left fun q hq => ?_).trans (List.map_id _)
  rw [if_neg fun z => h (by rw [← z]; exact mem_ad hq)]
  rfl
/-- a new list that is owned, and unlike what is owned already -/
theorem we_lstN {P : SD → MS → Prop} (h : WA X es ds m fun xs m1 => ∃ l, xs = l.map .py ∧ l.length ≤ 1000000 ∧ ∀ p, p ∉ ad m1 → P (.raw (.ref p)) ((p, .dl l) :: m1)) : WE X (.List es pos) ds m P := fun σ G H E w Q q => oE (pe_lst (pA es)) (by
  refine h σ G H E w _ fun vs xs m1 G1 H1 g1 r1 ⟨l, e1, hl, p⟩ => ?_
  subst e1
  have r2 := dss_py r1
  refine ⟨by rw [dpa_length r2]; exact Nat.le_trans hl (by decide), fun a ha => ?_⟩
  have g2 := Gr.made (o := .lst vs) (v := .dl l) g1.wd ha ⟨vs, rfl, r2⟩
  have fresh : a ∉ ad m1 := (List.nodup_cons.mp g2.wd.nd).1
  exact q _ _ _ _ _ (g1.trans g2) (.raw _) (p a fresh))
/-- y = [] -/
theorem ws_new {i : Nat} {x : Str} {pos' : Pos} {E : ED} (hN : X.N.Nodup) (h : ∀ p, p ∉ ad m → E.nx (ds.set i (some (.raw (.ref p)))) ((p, .dl []) :: m)) (hi : X.N[i]? = some x := by rfl) (hx : Loc X.env.scope x := by first | exact Or.inl rfl | exact Or.inr rfl)
    (hf : X.fn x = true ∨ X.env.scope.names.lookup x = some .local := by first | exact .inl rfl | exact .inr rfl | assumption) {p2 : Pos}
    (hs2 : swapsWith (.List [] pos) (some (.Name x pos')) p2.line X.env = pure false := by rfl) : WS X (.Assign [.Name x pos'] (.List [] pos) p2) ds m E :=
  ws_set hN (we_lstN (wa_nil ⟨[], rfl, by decide, h⟩)) hi hx hs2 hf
/-- append to what is owned at the head -/
theorem ws_appH {o : Expr} {apos cpos : Pos} {p : Addr} {l : List PyData} {d : PyData} {E : ED} (hp : p ∉ ad m) (ho : EE X o ds (.raw (.ref p))) (he : EE X e ds (.py d)) (hl : l.length < 1000000) (q : E.nx ds ((p, .dl (l ++ [d])) :: m))
    (hbase : attributeBase o "append" X.env (eval o X.env) = eval o X.env := by rfl)
    (hfew : ((backTo cpos (starEach (e :: []) X.env)).all (fun x => !x.1) && (backToKw cpos (keywordEach [] X.env)).all (fun x => x.1.isSome)
      && decide ((e :: ([] : List Expr)).length + ([] : List Keyword).length + (if ([] : List Keyword).isEmpty then 0 else 1) < 30)) = true := by rfl)
    (hline : (apos.endLine == cpos.line) = true := by rfl) (hs : starEach (e :: []) X.env = (false, eval e X.env) :: starEach [] X.env := by rfl) (hplain : (backTo cpos (starEach [] X.env)).any (·.1) = false := by rfl)
    (hsw : swapsWith (.Call (.Attribute o "append" apos) [e] [] cpos) none pos.line X.env = pure false := by rfl) : WS X (.Expr (.Call (.Attribute o "append" apos) [e] [] cpos) pos) ds ((p, .dl l) :: m) E :=
  ws_app ho ⟨l, List.mem_cons_self⟩ (he.to ⟨d, l, rfl, List.mem_cons_self, hl, by rw [mset_head hp]; exact q⟩) hbase hfew hline hs hplain hsw
/-- for, with what holds behind it -/
theorem ws_forB {body : List Stmt} {js : List Nat} {E : ED} (Fin : DE → MS → Prop) (h : WI X tg iter ds m fun xs m1 => ∃ Iv : Nat → DE → MS → Prop, Iv 0 ds m1 ∧
      (∀ i x ds' m', xs[i]? = some x → Iv i ds' m' → WG X tg js x ds' m' fun ds2 m2 => WSs X body ds2 m2 { E with nx := Iv (i + 1), ct := Iv (i + 1), bk := Fin }) ∧ ∀ ds' m', Iv xs.length ds' m' → Fin ds' m')
    (fin : ∀ ds' m', Fin ds' m' → E.nx ds' m')
    (hp : PassesOwn (model X.prog X.w) X.A X.env X.xe := by exact PassesOwn.never) (hc : X.calm = true := by rfl) (hs : ∀ x, foldedSetIterable iter X.env x = pure x := by intro _; rfl) : WS X (.For tg iter body [] pos) ds m E :=
  ws_for (js := js) (fun σ G H E0 w R' q => h σ G H E0 w R' fun J xs m' G' H' g it ⟨Iv, i0, turn, last⟩ => q J xs m' G' H' g it ⟨Iv, i0, fun i x ds' m' hx iv σ G H v e0 w r Q k => turn i x ds' m' hx iv σ G H v e0 w r Q fun σ' ds' m' G' H' g' e' s p => k σ' ds' m' G' H' g' e' s (p.mono (fun _ _ z => z) (fun _ _ z => z) (fun _ _ z => fin _ _ z) (fun _ _ z => z)), fun ds' m' z => fin _ _ (last _ _ z)⟩) hp hc hs
theorem md_joinS {t : List Nat} (hz : t.length ≤ 1000000) : MtD X "str" "str.join" m (S []) [Ls (t.map fun c => PyData.str ⟨[c].toArray⟩)] (S t) := by
  have z : MtD X "str" "str.join" m (S []) [Ls (txts (t.map fun c => [c]))] (S (joinL [] (t.map fun c => [c]))) := md_join (by
    rw [List.map_map]
    have e : (t.map (List.length ∘ fun c => [c])) = t.map fun _ => 1 := List.map_congr_left fun _ _ => rfl
    rw [e]
    have e2 : ∀ t : List Nat, (t.map fun _ => 1).sum = t.length := fun t => by
      induction t with
      | nil => rfl
      | cons c t ih => rw [List.map_cons, List.sum_cons, ih, List.length_cons, Nat.add_comm]
    rw [e2]
    simpa using hz)
  have e1 : joinL [] (t.map fun c => [c]) = t := by
    rw [joinL_nil, flat_sing (fun c => c)]
    exact List.map_id' t
  rw [e1] at z
  unfold txts at z
  rw [List.map_map] at z
  exact z
theorem low_get {n : Nat} (h : 32 ≤ n ∧ n ≤ 36) : lowS[n - 32]? = some n := by
  have : ∀ n < 37, 32 ≤ n → lowS[n - 32]? = some n := by decide
  exact this n (by omega) h.1
theorem high_get {n : Nat} (h : 38 ≤ n ∧ n ≤ 126) : highS[n - 38]? = some n := by
  have : ∀ n < 127, 38 ≤ n → highS[n - 38]? = some n := by decide
  exact this n (by omega) h.1
theorem sd_low {n : Nat} (h : 32 ≤ n ∧ n ≤ 36) : SubD X m (S lowS) (I ((n : Int) - 32)) (S [n]) := sd_str (at_nn (by omega) (by
  have e : ((n : Int) - 32).toNat = n - 32 := by omega
  rw [e]; exact low_get h)) (by decide)
theorem sd_high {n : Nat} (h : 38 ≤ n ∧ n ≤ 126) : SubD X m (S highS) (I ((n : Int) - 38)) (S [n]) := sd_str (at_nn (by omega) (by
  have e : ((n : Int) - 38).toNat = n - 38 := by omega
  rw [e]; exact high_get h)) (by decide)
theorem rg_pairs : RgC 0 226 2 113 := ⟨by decide, by decide, by decide, by decide⟩
theorem cut_nat {α : Type} (l : List α) {i j : Int} {a b : Nat} (h : i = (a : Int)) (h2 : j = (b : Int)) : cut l (some i) (some j) = (l.drop a).take (b - a) := by
  subst h h2
  exact cut_nn l a b
/-- a comprehension over pairs of data -/
theorem ee_lct {α : Type} {j1 j2 : Nat} {x1 x2 : Str} {p1 p2 tpos : Pos} {kk : Nat} {scope : Scope} (l : List α) (g1 g2 : α → PyData) (h : α → PyData) (own : List (Str × Nat)) (ho : own.map (·.2) = [j1, j2]) (hN : X.N.Nodup)
    (hi : EI X (.Tuple [.Name x1 p1, .Name x2 p2] kk tpos) iter ds (l.map fun a => Tp [g1 a, g2 a])) (hl : l.length ≤ 1000000)
    (turn : ∀ a ∈ l, AllBlk X scope fun Y => EE Y elt ((((ds.set j2 none).set j1 none).set j1 (some (.py (g1 a)))).set j2 (some (.py (g2 a)))) (.py (h a)))
    (wg : ∀ s H C cl fp d1 d2 (ds : DE) m (Q : DE → MS → Prop), Q ((ds.set j1 (some (.py d1))).set j2 (some (.py d2))) m → WG (Blk X scope s H C cl fp) (.Tuple [.Name x1 p1, .Name x2 p2] kk tpos) [j1, j2] (Tp [d1, d2]) ds m Q)
    (ok : BlkOk X.N X.env.scope scope own) (hc : X.calm = true := by rfl) (hs : ∀ x, foldedSetIterable iter X.env x = pure x := by intro _; rfl) : EE X (.ListComp elt [⟨.Tuple [.Name x1 p1, .Name x2 p2] kk tpos, iter, [], 0⟩] scope pos) ds (Ls (l.map h)) := fun m =>
  we_lc own hN (hi.to ⟨by rw [List.length_map]; exact hl, fun i acc m' => acc = (l.take i).map h ∧ m' = m, ⟨rfl, rfl⟩, fun i y acc m' hy _ ⟨e1, e2⟩ => by
    subst e1 e2
    rw [ho]
    obtain ⟨a, q, rfl⟩ := map_get hy
    refine fun s H C cl fp => wg _ _ _ _ _ _ _ _ _ _ fun s H C cl fp => wts_nil ?_
    rw [if_pos rfl]
    refine fun s H C cl fp => (turn a (List.mem_of_getElem? q) s H C cl fp).to ⟨_, rfl, ?_, rfl⟩
    rw [List.take_add_one, q, List.map_append]
    rfl, fun acc m' _ ⟨e1, e2⟩ => by
    rw [List.length_map, List.take_length] at e1
    exact ⟨by rw [e1], e2⟩⟩) ok hc hs
end
end W9
namespace W9
open PySem PySem.Spec PyProof.Rows L2
/-! ### told sums -/
def wk : Nat → Nat
  | 0 => 3
  | 1 => 5
  | _ => 7
def atw : Nat → Nat
  | 0 => 226
  | i + 1 => atw i + 2 * wk i
abbrev told (ws : List Nat) (i : Nat) : List Nat := (ws.drop (atw i)).take (wk i)
abbrev nums (ws : List Nat) (i : Nat) : Nat := num (told ws i)
abbrev cnd (ws : List Nat) (i : Nat) : Prop := cmpl (told ws i) = (ws.drop (atw i + wk i)).take (wk i)
def tolds (ws : List Nat) : Option (Nat × Nat × Nat) := if cnd ws 0 ∧ cnd ws 1 ∧ cnd ws 2 then some (nums ws 0, nums ws 1, nums ws 2) else none
def told2 (ws : List Nat) : Option (Nat × Nat) := if cnd ws 0 ∧ cnd ws 1 then some (nums ws 0, nums ws 1) else none
theorem told_tail {ws : List Nat} (hl : ws.length = 256) (ho : Ok ws) {a b c : Nat} (h : tolds ws = some (a, b, c)) : ws.drop 226 = tailOf a b c := by
  unfold tolds at h
  split at h
  · next q =>
    obtain ⟨q0, q1, q2⟩ := q
    cases h
    have piece : ∀ i, i < 3 → (ws.drop (atw i)).take (2 * wk i) = tw (wk i) (nums ws i) := fun i hi => by
      have hlen : (told ws i).length = wk i := by
        rw [List.length_take, List.length_drop, hl]
        match i, hi with
        | 0, _ => rfl
        | 1, _ => rfl
        | 2, _ => rfl
      have e1 : digs (wk i) (nums ws i) = told ws i := by
        have := digs_num ((ho.dp (atw i)).tk (wk i))
        rw [show ((ws.drop (atw i)).take (wk i)).length = wk i from hlen] at this
        exact this
      have e2 : cmpl (told ws i) = (ws.drop (atw i + wk i)).take (wk i) := by
        match i, hi with
        | 0, _ => exact q0
        | 1, _ => exact q1
        | 2, _ => exact q2
      unfold tw
      rw [e1, e2, ← List.drop_drop, Nat.two_mul, List.take_add]
    have p0 := piece 0 (by decide)
    have p1 := piece 1 (by decide)
    have p2 := piece 2 (by decide)
    have p0 : (ws.drop 226).take 6 = tw 3 (nums ws 0) := p0
    have p1 : (ws.drop 232).take 10 = tw 5 (nums ws 1) := p1
    have p2 : (ws.drop 242).take 14 = tw 7 (nums ws 2) := p2
    unfold tailOf
    rw [← p0, ← p1, ← p2]
    have e3 : (ws.drop 242).take 14 = ws.drop 242 := List.take_of_length_le (by rw [List.length_drop, hl]; decide)
    rw [e3]
    have d1 : ws.drop 242 = (ws.drop 232).drop 10 := by rw [List.drop_drop]
    have d2 : ws.drop 232 = (ws.drop 226).drop 6 := by rw [List.drop_drop]
    rw [d1, List.take_append_drop, d2, List.take_append_drop]
  · cases h
theorem tail_told {ws : List Nat} {a b c : Nat} (ha : a < 16 ^ 3) (hb : b < 16 ^ 5) (hc : c < 16 ^ 7) (h : ws.drop 226 = tailOf a b c) : tolds ws = some (a, b, c) := by
  have hd : ∀ i, 226 ≤ i → ws.drop i = (tailOf a b c).drop (i - 226) := fun i hi => by
    rw [← h, List.drop_drop]
    congr 1
    omega
  have l1 := digs_length 3 a
  have l2 := digs_length 5 b
  have l3 := digs_length 7 c
  have x0 : ws.drop 226 = digs 3 a ++ (cmpl (digs 3 a) ++ (tw 5 b ++ tw 7 c)) := by
    rw [h]
    unfold tailOf
    rw [show tw 3 a = digs 3 a ++ cmpl (digs 3 a) from rfl, List.append_assoc]
  have x1 : ws.drop 229 = cmpl (digs 3 a) ++ (tw 5 b ++ tw 7 c) := by
    have : ws.drop 229 = (ws.drop 226).drop 3 := by rw [List.drop_drop]
    rw [this, x0, List.drop_left' l1]
  have x2 : ws.drop 232 = digs 5 b ++ (cmpl (digs 5 b) ++ tw 7 c) := by
    have : ws.drop 232 = (ws.drop 229).drop 3 := by rw [List.drop_drop]
    rw [this, x1, List.drop_left' (by rw [List.length_map, l1]), show tw 5 b = digs 5 b ++ cmpl (digs 5 b) from rfl, List.append_assoc]
  have x3 : ws.drop 237 = cmpl (digs 5 b) ++ tw 7 c := by
    have : ws.drop 237 = (ws.drop 232).drop 5 := by rw [List.drop_drop]
    rw [this, x2, List.drop_left' l2]
  have x4 : ws.drop 242 = digs 7 c ++ cmpl (digs 7 c) := by
    have : ws.drop 242 = (ws.drop 237).drop 5 := by rw [List.drop_drop]
    rw [this, x3, List.drop_left' (by rw [List.length_map, l2])]
    rfl
  have x5 : ws.drop 249 = cmpl (digs 7 c) := by
    have : ws.drop 249 = (ws.drop 242).drop 7 := by rw [List.drop_drop]
    rw [this, x4, List.drop_left' l3]
  have t0 : told ws 0 = digs 3 a := by
    show (ws.drop 226).take 3 = _
    rw [x0, List.take_left' l1]
  have t1 : told ws 1 = digs 5 b := by
    show (ws.drop 232).take 5 = _
    rw [x2, List.take_left' l2]
  have t2 : told ws 2 = digs 7 c := by
    show (ws.drop 242).take 7 = _
    rw [x4, List.take_left' l3]
  have c0 : cnd ws 0 := by
    show cmpl (told ws 0) = (ws.drop 229).take 3
    rw [t0, x1, List.take_left' (by rw [List.length_map, l1])]
  have c1 : cnd ws 1 := by
    show cmpl (told ws 1) = (ws.drop 237).take 5
    rw [t1, x3, List.take_left' (by rw [List.length_map, l2])]
  have c2 : cnd ws 2 := by
    show cmpl (told ws 2) = (ws.drop 249).take 7
    rw [t2, x5, List.take_of_length_le (by rw [List.length_map, l3]; decide)]
  unfold tolds
  rw [if_pos ⟨c0, c1, c2⟩]
  show some (num (told ws 0), num (told ws 1), num (told ws 2)) = _
  rw [t0, t1, t2, num_digs, num_digs, num_digs, Nat.mod_eq_of_lt ha, Nat.mod_eq_of_lt hb, Nat.mod_eq_of_lt hc]
theorem told2_of {ws : List Nat} {a b c : Nat} (h : tolds ws = some (a, b, c)) : told2 ws = some (a, b) := by
  unfold tolds at h
  split at h
  · next q => cases h; exact if_pos ⟨q.1, q.2.1⟩
  · cases h
/-! ### a lifted cell -/
abbrev w0 (ws : List Nat) (i : Nat) : Nat := ws.getD i 0
/-- of the reader's first two sums -/
def lift2 (ws : List Nat) : Option Nat :=
  match told2 ws with
  | none => none
  | some (a, b) =>
    let by_ : Int := (s0 ws : Int) - a
    let far : Int := (s1 ws : Int) - b
    let at_ := far / by_ - 1
    if (1 ≤ by_ ∧ by_ ≤ 15) ∧ (0 ≤ at_ ∧ at_ < 226) ∧ far = by_ * (at_ + 1) ∧ w0 ws at_.toNat + by_ ≤ 15 then some at_.toNat else none
def by2 (ws : List Nat) : Nat := s0 ws - nums ws 0
def lifted (ws : List Nat) (p : Nat) : List Nat := ws.set p (w0 ws p + by2 ws)
/-- the program's own -/
def ft (ws : List Nat) : Option (List Nat × Nat) :=
  match tolds ws with
  | none => none
  | some (a, b, c) =>
    let more : Int := (s0 ws : Int) - a
    let placed : Int := (s1 ws : Int) - b
    let squared : Int := (s2 ws : Int) - c
    let at_ := placed / more - 1
    if ¬ (more < 1 ∨ placed % more ≠ 0) ∧ ¬ (¬ (0 ≤ at_ ∧ at_ < 226) ∨ squared ≠ placed * (at_ + 1) ∨ w0 ws at_.toNat + more > 15) then
      (dec (lifted ws at_.toNat)).map fun t => (t, at_.toNat)
    else none
def unl (a b : List Nat) (lo n : Nat) : List Nat := ((List.range n).map (lo + ·)).filter fun p => decide (w0 a p ≠ w0 b p)
def fs (ws : List Nat) : Option (List Nat × Nat) :=
  match dec ws with
  | none => none
  | some t => match unl ws (sealT t) 226 30 with
    | [p] => if w0 ws p > w0 (sealT t) p then none else some (t, p)
    | _ => none
def fal (ws pg : List Nat) : Option Nat :=
  match unl ws pg 0 256 with
  | [p] => if w0 ws p < w0 pg p then some p else none
  | _ => none
abbrev tx (l : List Nat) : PyData := .str ⟨l.toArray⟩
abbrev nE : List Nat := [101, 109, 112, 116, 121]
abbrev nW : List Nat := [119, 104, 111, 108, 101]
abbrev nM : List Nat := [109, 101, 110, 100, 101, 100]
abbrev nT : List Nat := [116, 111, 114, 110]
def po (ws : List Nat) : PyData :=
  if ws = List.replicate 256 15 then .tuple [tx nE]
  else if (match dec ws with | some t => decide (sealT t = ws) | none => false) = true then .tuple [tx nW, tx ((dec ws).getD [])]
  else match (match ft ws with | some r => some r | none => fs ws) with
    | none => .tuple [tx nT]
    | some (t, p) => .tuple [tx nM, tx t, .int p]
def tryH (ws : List Nat) : Option (List Nat) → Option PyData
  | none => none
  | some t => if sealT t = ws then some (.tuple [tx nW, tx t]) else (fal ws (sealT t)).map fun p => .tuple [tx nM, tx t, .int p]
def lo (ws : List Nat) : PyData :=
  if ws = List.replicate 256 15 then .tuple [tx nE]
  else match tryH ws (dec ws) with
    | some r => r
    | none => match tryH ws ((lift2 ws).bind fun p => dec (lifted ws p)) with
      | some r => r
      | none => .tuple [tx nT]
end W9
namespace W9
open PySem PySem.Spec PyProof.Rows L2
theorem sumW_set (f : Nat → Nat) : ∀ (l : List Nat) (i p v w : Nat), l[p]? = some w → sumW f i (l.set p v) + (15 - w) * f (i + p) = sumW f i l + (15 - v) * f (i + p)
  | [], i, p, v, w, h => by simp at h
  | x :: l, i, 0, v, w, h => by
    have e : x = w := Option.some.inj h
    subst e
    show (15 - v) * f i + sumW f (i + 1) l + (15 - x) * f (i + 0) = (15 - x) * f i + sumW f (i + 1) l + (15 - v) * f (i + 0)
    simp only [Nat.add_zero]
    omega
  | x :: l, i, p + 1, v, w, h => by
    have ih := sumW_set f l (i + 1) p v w (by simpa using h)
    have e : i + 1 + p = i + (p + 1) := by omega
    rw [e] at ih
    show (15 - x) * f i + sumW f (i + 1) (l.set p v) + (15 - w) * f (i + (p + 1)) = (15 - x) * f i + sumW f (i + 1) l + (15 - v) * f (i + (p + 1))
    omega
theorem w0_get {ws : List Nat} {p : Nat} (h : p < ws.length) : ws[p]? = some (w0 ws p) := by
  rw [List.getElem?_eq_getElem h]
  congr 1
  simp [w0, List.getD, h]
theorem w0_of {ws : List Nat} {p v : Nat} (h : ws[p]? = some v) : w0 ws p = v := by
  simp [w0, List.getD, h]
theorem w0_lt {ws : List Nat} (ho : Ok ws) (p : Nat) : w0 ws p < 16 := by
  by_cases h : p < ws.length
  · exact ho.get (w0_get h)
  · have : ws[p]? = none := List.getElem?_eq_none (by omega)
    simp [w0, List.getD, this]
theorem ext_w0 {a b : List Nat} (hl : a.length = b.length) (h : ∀ p, p < a.length → w0 a p = w0 b p) : a = b := by
  refine List.ext_getElem? fun p => ?_
  by_cases hp : p < a.length
  · rw [w0_get hp, w0_get (by omega), h p hp]
  · rw [List.getElem?_eq_none (by omega), List.getElem?_eq_none (by omega)]
theorem w0_set_same {ws : List Nat} {p v : Nat} (h : p < ws.length) : w0 (ws.set p v) p = v := w0_of (by rw [List.getElem?_set_self h])
theorem w0_set_ne {ws : List Nat} {p q v : Nat} (h : p ≠ q) : w0 (ws.set p v) q = w0 ws q := by
  simp [w0, List.getD, List.getElem?_set_ne h]
theorem w0_take {ws : List Nat} {n p : Nat} (h : p < n) : w0 (ws.take n) p = w0 ws p := by
  simp [w0, List.getD, List.getElem?_take, h]
theorem w0_drop {ws : List Nat} {n p : Nat} : w0 (ws.drop n) p = w0 ws (n + p) := by
  simp [w0, List.getD, List.getElem?_drop]
theorem w0_app1 {a b : List Nat} {p : Nat} (h : p < a.length) : w0 (a ++ b) p = w0 a p := by
  simp [w0, List.getD, List.getElem?_append_left h]
theorem w0_app2 {a b : List Nat} {p : Nat} : w0 (a ++ b) (a.length + p) = w0 b p := by
  simp [w0, List.getD, List.getElem?_append_right]
/-! ### bounds of the sums -/
theorem s0_lt (ws : List Nat) : s0 ws < 16 ^ 3 := by
  have h := sumW_le (f := f0) (b := 1) 0 (ws.take 226) fun _ _ => Nat.le_refl 1
  have h2 : (ws.take 226).length ≤ 226 := by rw [List.length_take]; omega
  have h3 : s0 ws = sumW f0 0 (ws.take 226) := rfl
  omega
theorem s1_lt (ws : List Nat) : s1 ws < 16 ^ 5 := by
  have h2 : (ws.take 226).length ≤ 226 := by rw [List.length_take]; omega
  have h := sumW_le (f := f1) (b := 226) 0 (ws.take 226) fun j hj => by show j + 1 ≤ 226; omega
  have h3 : s1 ws = sumW f1 0 (ws.take 226) := rfl
  omega
theorem s2_lt (ws : List Nat) : s2 ws < 16 ^ 7 := by
  have h2 : (ws.take 226).length ≤ 226 := by rw [List.length_take]; omega
  have h := sumW_le (f := f2) (b := 226 * 226) 0 (ws.take 226) fun j hj => by show (j + 1) * (j + 1) ≤ 226 * 226; exact Nat.mul_le_mul (by omega) (by omega)
  have h3 : s2 ws = sumW f2 0 (ws.take 226) := rfl
  omega
/-! ### raising a cell -/
section
variable {ws : List Nat} {p d : Nat}
theorem raise_sum (f : Nat → Nat) (hl : 226 ≤ ws.length) (hp : p < 226) (hd : w0 ws p + d ≤ 15) : sumW f 0 (ws.take 226) = sumW f 0 ((ws.set p (w0 ws p + d)).take 226) + d * f p := by
  have hg : (ws.take 226)[p]? = some (w0 ws p) := by rw [List.getElem?_take, if_pos hp, w0_get (by omega)]
  have h := sumW_set f (ws.take 226) 0 p (w0 ws p + d) (w0 ws p) hg
  rw [← List.take_set, Nat.zero_add] at h
  have e : 15 - w0 ws p = (15 - (w0 ws p + d)) + d := by omega
  rw [e, Nat.add_mul] at h
  omega
theorem raise_ok (ho : Ok ws) (hd : w0 ws p + d ≤ 15) : Ok (ws.set p (w0 ws p + d)) := fun w hw => by
  rcases List.mem_or_eq_of_mem_set hw with h | h
  · exact ho w h
  · omega
end
theorem sealT_eq {L : List Nat} {t : List Nat} (ho : Ok L) (hl : 226 ≤ L.length) (h : dec L = some t) : sealT t = L.take 226 ++ tailOf (s0 L) (s1 L) (s2 L) := by
  have e := dec_cells ho hl h
  unfold sealT
  rw [e]
  have e2 : ∀ f, sumW f 0 ((L.take 226).take 226) = sumW f 0 (L.take 226) := fun f => by rw [List.take_take, Nat.min_self]
  rw [show s0 (L.take 226) = s0 L from e2 f0, show s1 (L.take 226) = s1 L from e2 f1, show s2 (L.take 226) = s2 L from e2 f2]
/-! ### places at which two pages are unlike -/
theorem mem_unl {a b : List Nat} {lo n q : Nat} : q ∈ unl a b lo n ↔ (lo ≤ q ∧ q < lo + n) ∧ w0 a q ≠ w0 b q := by
  unfold unl
  rw [List.mem_filter, List.mem_map, decide_eq_true_eq]
  constructor
  · rintro ⟨⟨i, hi, rfl⟩, h⟩
    rw [List.mem_range] at hi
    exact ⟨by omega, h⟩
  · rintro ⟨⟨h1, h2⟩, h⟩
    exact ⟨⟨q - lo, List.mem_range.mpr (by omega), by omega⟩, h⟩
theorem filter_one {l : List Nat} {P : Nat → Bool} {p : Nat} (hn : l.Nodup) (hm : p ∈ l) (h : ∀ q ∈ l, P q = true ↔ q = p) : l.filter P = [p] := by
  induction l with
  | nil => cases hm
  | cons x l ih =>
    rw [List.nodup_cons] at hn
    by_cases e : x = p
    · subst e
      rw [List.filter_cons_of_pos ((h x List.mem_cons_self).mpr rfl)]
      congr 1
      rw [List.filter_eq_nil_iff]
      intro q hq hP
      have := (h q (List.mem_cons_of_mem _ hq)).mp hP
      subst this
      exact hn.1 hq
    · have hx : ¬ P x = true := fun z => e ((h x List.mem_cons_self).mp z)
      rw [List.filter_cons_of_neg hx]
      refine ih hn.2 ?_ fun q hq => h q (List.mem_cons_of_mem _ hq)
      rcases List.mem_cons.mp hm with z | z
      · exact absurd z.symm e
      · exact z
theorem range_nodup (lo n : Nat) : ((List.range n).map (lo + ·)).Nodup := by
  refine List.Pairwise.map (R := fun a b => a ≠ b) _ (fun a b h => ?_) List.nodup_range
  omega
theorem unl_one {a b : List Nat} {lo n p : Nat} (hp : lo ≤ p ∧ p < lo + n) (h : ∀ q, lo ≤ q → q < lo + n → (w0 a q ≠ w0 b q ↔ q = p)) : unl a b lo n = [p] := by
  refine filter_one (range_nodup lo n) (List.mem_map.mpr ⟨p - lo, List.mem_range.mpr (by omega), by omega⟩) fun q hq => ?_
  obtain ⟨i, hi, rfl⟩ := List.mem_map.mp hq
  rw [List.mem_range] at hi
  rw [decide_eq_true_eq]
  exact h _ (by omega) (by omega)
theorem unl_mem {a b : List Nat} {lo n p : Nat} (h : unl a b lo n = [p]) : ((lo ≤ p ∧ p < lo + n) ∧ w0 a p ≠ w0 b p) ∧ ∀ q, lo ≤ q → q < lo + n → w0 a q ≠ w0 b q → q = p := by
  refine ⟨mem_unl.mp (by rw [h]; exact List.mem_singleton_self p), fun q h1 h2 h3 => ?_⟩
  have : q ∈ unl a b lo n := mem_unl.mpr ⟨⟨h1, h2⟩, h3⟩
  rw [h, List.mem_singleton] at this
  exact this
theorem unl_tail {a b : List Nat} (h : a.take 226 = b.take 226) : unl a b 0 256 = unl a b 226 30 := by
  have e : (List.range 256).map (0 + ·) = (List.range 226).map (0 + ·) ++ (List.range 30).map (226 + ·) := by decide
  unfold unl
  rw [e, List.filter_append]
  have z : ((List.range 226).map (0 + ·)).filter (fun p => decide (w0 a p ≠ w0 b p)) = [] := by
    rw [List.filter_eq_nil_iff]
    intro q hq
    obtain ⟨i, hi, rfl⟩ := List.mem_map.mp hq
    rw [List.mem_range] at hi
    have : w0 a (0 + i) = w0 b (0 + i) := by rw [← w0_take (n := 226) (by omega), h, w0_take (by omega)]
    rw [decide_eq_true_eq]
    exact fun z => z this
  rw [z, List.nil_append]
theorem fal_some {ws pg : List Nat} {q : Nat} (h : fal ws pg = some q) : unl ws pg 0 256 = [q] ∧ w0 ws q < w0 pg q := by
  unfold fal at h
  split at h
  · next p e =>
    split at h
    · next z => cases h; exact ⟨e, z⟩
    · cases h
  · cases h
theorem fal_mk {ws pg : List Nat} {q : Nat} (h : unl ws pg 0 256 = [q]) (h2 : w0 ws q < w0 pg q) : fal ws pg = some q := by
  unfold fal
  rw [h]
  exact if_pos h2
end W9
namespace W9
open PySem PySem.Spec PyProof.Rows L2
/-! ### both readers say the same of each page of cells -/
section
variable {ws : List Nat}
/-- what the program's mending in the text means -/
theorem ft_some {t : List Nat} {p : Nat} (h : ft ws = some (t, p)) : ∃ a b c, tolds ws = some (a, b, c) ∧ p < 226 ∧ 1 ≤ by2 ws ∧ w0 ws p + by2 ws ≤ 15 ∧ s0 ws = a + by2 ws ∧ s1 ws = b + by2 ws * (p + 1) ∧ s2 ws = c + by2 ws * ((p + 1) * (p + 1)) ∧ dec (lifted ws p) = some t := by
  unfold ft at h
  split at h
  · cases h
  · next a b c e =>
    dsimp only at h
    split at h
    · next q =>
      obtain ⟨q1, q2⟩ := q
      have ea : a = nums ws 0 := by
        unfold tolds at e
        split at e
        · cases e; rfl
        · cases e
      cases hd : dec (lifted ws ((((s1 ws : Int) - b) / ((s0 ws : Int) - a)) - 1).toNat) with
      | none => rw [hd] at h; cases h
      | some t' =>
        rw [hd] at h
        have h := Option.some.inj h
        obtain ⟨r1, r2⟩ := Prod.mk.inj h
        subst r1
        generalize hat : (((s1 ws : Int) - b) / ((s0 ws : Int) - a)) - 1 = at_ at *
        have hq1 := not_or.mp q1
        have hm : (1 : Int) ≤ (s0 ws : Int) - a := by omega
        have hz : ((s1 ws : Int) - b) % ((s0 ws : Int) - a) = 0 := by
          have := hq1.2
          omega
        have hq2 := not_or.mp q2
        have hr : 0 ≤ at_ ∧ at_ < 226 := Decidable.not_not.mp hq2.1
        have hq3 := not_or.mp hq2.2
        have hsq : (s2 ws : Int) - c = ((s1 ws : Int) - b) * (at_ + 1) := Decidable.not_not.mp hq3.1
        have hw := hq3.2
        have hpl : (s1 ws : Int) - b = ((s0 ws : Int) - a) * (at_ + 1) := by
          have h1 := Int.mul_ediv_add_emod ((s1 ws : Int) - b) ((s0 ws : Int) - a)
          rw [hz, Int.add_zero] at h1
          rw [← h1]
          congr 1
          omega
        have hb : by2 ws = s0 ws - a := by unfold by2; rw [ea]
        have hbi : ((by2 ws : Nat) : Int) = (s0 ws : Int) - a := by omega
        have hp : ((p : Nat) : Int) = at_ := by omega
        refine ⟨a, b, c, e, by omega, by omega, by rw [← r2]; omega, by omega, ?_, ?_, by rw [← r2]; exact hd⟩
        · have : ((s1 ws : Nat) : Int) = ((b + by2 ws * (p + 1) : Nat) : Int) := by
            rw [Int.natCast_add, Int.natCast_mul, hbi, Int.natCast_add, hp, Int.natCast_one, ← hpl]
            omega
          omega
        · have : ((s2 ws : Nat) : Int) = ((c + by2 ws * ((p + 1) * (p + 1)) : Nat) : Int) := by
            rw [Int.natCast_add, Int.natCast_mul, Int.natCast_mul, hbi, Int.natCast_add, hp, Int.natCast_one, ← Int.mul_assoc, ← hpl, ← hsq]
            omega
          omega
    · cases h
theorem ft_mk {t : List Nat} {a b c p d : Nat} (e : tolds ws = some (a, b, c)) (hp : p < 226) (hd : 1 ≤ d) (hw : w0 ws p + d ≤ 15) (e0 : s0 ws = a + d) (e1 : s1 ws = b + d * (p + 1)) (e2 : s2 ws = c + d * ((p + 1) * (p + 1))) (ht : dec (lifted ws p) = some t) : ft ws = some (t, p) := by
  unfold ft
  rw [e]
  dsimp only
  have i0 : (s0 ws : Int) - a = (d : Int) := by omega
  have i1 : (s1 ws : Int) - b = (d : Int) * ((p : Int) + 1) := by
    have : ((s1 ws : Nat) : Int) = ((b + d * (p + 1) : Nat) : Int) := by rw [e1]
    rw [Int.natCast_add, Int.natCast_mul, Int.natCast_add, Int.natCast_one] at this
    omega
  have i2 : (s2 ws : Int) - c = (d : Int) * ((p : Int) + 1) * ((p : Int) + 1) := by
    have : ((s2 ws : Nat) : Int) = ((c + d * ((p + 1) * (p + 1)) : Nat) : Int) := by rw [e2]
    rw [Int.natCast_add, Int.natCast_mul, Int.natCast_mul, Int.natCast_add, Int.natCast_one, ← Int.mul_assoc] at this
    omega
  have hdiv : (d : Int) * ((p : Int) + 1) / (d : Int) - 1 = (p : Int) := by
    rw [Int.mul_ediv_cancel_left _ (by omega)]
    omega
  have hmod : (d : Int) * ((p : Int) + 1) % (d : Int) = 0 := Int.mul_emod_right ..
  rw [i0, i1, i2, hdiv, hmod, Int.toNat_natCast, ht]
  rw [if_pos ⟨fun z => by rcases z with z | z <;> omega, fun z => by
    rcases z with z | z | z
    · exact z ⟨by omega, by omega⟩
    · exact z rfl
    · omega⟩]
  rfl
/-- what the reader's lifted cell means -/
theorem lift_some {p : Nat} (h : lift2 ws = some p) : ∃ a b, told2 ws = some (a, b) ∧ p < 226 ∧ 1 ≤ by2 ws ∧ w0 ws p + by2 ws ≤ 15 ∧ s0 ws = a + by2 ws := by
  unfold lift2 at h
  split at h
  · cases h
  · next a b e =>
    dsimp only at h
    split at h
    · next q =>
      have ea : a = nums ws 0 := by
        unfold told2 at e
        split at e
        · cases e; rfl
        · cases e
      have hb : by2 ws = s0 ws - a := by unfold by2; rw [ea]
      have h := Option.some.inj h
      rw [h] at q
      generalize (((s1 ws : Int) - b) / ((s0 ws : Int) - a)) - 1 = at_ at *
      obtain ⟨q1, q2, q3, q4⟩ := q
      exact ⟨a, b, e, by omega, by omega, by omega, by omega⟩
    · cases h
theorem lift_mk {a b p d : Nat} (e : told2 ws = some (a, b)) (hp : p < 226) (hd : 1 ≤ d) (hw : w0 ws p + d ≤ 15) (e0 : s0 ws = a + d) (e1 : s1 ws = b + d * (p + 1)) : lift2 ws = some p := by
  unfold lift2
  rw [e]
  dsimp only
  have i0 : (s0 ws : Int) - a = (d : Int) := by omega
  have i1 : (s1 ws : Int) - b = (d : Int) * ((p : Int) + 1) := by
    have : ((s1 ws : Nat) : Int) = ((b + d * (p + 1) : Nat) : Int) := by rw [e1]
    rw [Int.natCast_add, Int.natCast_mul, Int.natCast_add, Int.natCast_one] at this
    omega
  have hdiv : (d : Int) * ((p : Int) + 1) / (d : Int) - 1 = (p : Int) := by
    rw [Int.mul_ediv_cancel_left _ (by omega)]
    omega
  rw [i0, i1, hdiv, Int.toNat_natCast]
  exact if_pos ⟨⟨by omega, by omega⟩, ⟨by omega, by omega⟩, rfl, by omega⟩
variable (ho : Ok ws) (hl : ws.length = 256)
include ho hl
theorem lifted_sum {p : Nat} (f : Nat → Nat) (hp : p < 226) (hw : w0 ws p + by2 ws ≤ 15) : sumW f 0 (ws.take 226) = sumW f 0 ((lifted ws p).take 226) + by2 ws * f p := raise_sum f (by omega) hp hw
theorem lifted_len (p : Nat) : (lifted ws p).length = 256 := by
  unfold lifted
  rw [List.length_set, hl]
theorem lifted_drop {p : Nat} (hp : p < 226) : (lifted ws p).drop 226 = ws.drop 226 := by
  unfold lifted
  rw [List.drop_set_of_lt hp]
/-- mended in the text: the sealed page is this one, but for the lifted cell -/
theorem ft_page {t : List Nat} {p : Nat} (h : ft ws = some (t, p)) : sealT t = lifted ws p := by
  obtain ⟨a, b, c, e, hp, hd, hw, e0, e1, e2, ht⟩ := ft_some h
  have hL := lifted_len ho hl p
  rw [sealT_eq (L := lifted ws p) (raise_ok ho hw) (by rw [hL]; decide) ht]
  have l0 := lifted_sum ho hl f0 hp hw
  have l1 := lifted_sum ho hl f1 hp hw
  have l2 := lifted_sum ho hl f2 hp hw
  have x0 : s0 (lifted ws p) = a := by
    have l0 : s0 ws = s0 (lifted ws p) + by2 ws * 1 := l0
    omega
  have x1 : s1 (lifted ws p) = b := by
    have l1 : s1 ws = s1 (lifted ws p) + by2 ws * (p + 1) := l1
    omega
  have x2 : s2 (lifted ws p) = c := by
    have l2 : s2 ws = s2 (lifted ws p) + by2 ws * ((p + 1) * (p + 1)) := l2
    omega
  rw [x0, x1, x2, ← told_tail hl ho e, ← lifted_drop ho hl hp, List.take_append_drop]
theorem lifted_unl {p : Nat} (hp : p < 226) (hd : 1 ≤ by2 ws) : unl ws (lifted ws p) 0 256 = [p] := unl_one ⟨Nat.zero_le _, by omega⟩ fun q h1 h2 => by
  unfold lifted
  by_cases e : q = p
  · subst e
    rw [w0_set_same (by omega)]
    exact ⟨fun _ => rfl, fun _ => by omega⟩
  · rw [w0_set_ne (fun z => e z.symm)]
    exact ⟨fun z => absurd rfl z, fun z => absurd z e⟩
theorem ft_try {t : List Nat} {p : Nat} (h : ft ws = some (t, p)) : tryH ws ((lift2 ws).bind fun p => dec (lifted ws p)) = some (.tuple [tx nM, tx t, .int p]) := by
  obtain ⟨a, b, c, e, hp, hd, hw, e0, e1, e2, ht⟩ := ft_some h
  rw [lift_mk (told2_of e) hp hd hw e0 e1]
  show tryH ws (dec (lifted ws p)) = _
  rw [ht]
  have hs := ft_page ho hl h
  have hu := lifted_unl ho hl hp hd
  have hne : ¬ sealT t = ws := fun z => by
    have := (unl_mem hu).1.2
    rw [← hs, z] at this
    exact this rfl
  show (if sealT t = ws then _ else _) = _
  rw [if_neg hne, hs, fal_mk hu (by
    unfold lifted
    rw [w0_set_same (by omega)]
    omega)]
  rfl
/-- the plain reading of the page as it is can't be mended, too -/
theorem ft_head {t t1 : List Nat} {p : Nat} (h : ft ws = some (t, p)) (h1 : dec ws = some t1) : fal ws (sealT t1) = none := by
  obtain ⟨a, b, c, e, hp, hd, hw, e0, e1, e2, ht⟩ := ft_some h
  cases q : fal ws (sealT t1) with
  | none => rfl
  | some r =>
    exfalso
    have hu := (unl_mem (fal_some q).1).2
    have hs := sealT_eq ho (by omega) h1
    have hlen : (ws.take 226).length = 226 := by rw [List.length_take]; omega
    have hd0 := told_tail hl ho e
    have cell : ∀ k, w0 (sealT t1) (226 + k) = w0 (tailOf (s0 ws) (s1 ws) (s2 ws)) k := fun k => by
      have e2 := w0_app2 (a := ws.take 226) (b := tailOf (s0 ws) (s1 ws) (s2 ws)) (p := k)
      rw [hlen] at e2
      rw [hs, e2]
    have mine : ∀ k, w0 ws (226 + k) = w0 (tailOf a b c) k := fun k => by rw [← hd0, w0_drop]
    have first : ∀ (x y z k : Nat), k < 3 → w0 (tailOf x y z) k = w0 (digs 3 x) k ∧ w0 (tailOf x y z) (3 + k) = 15 - w0 (digs 3 x) k := fun x y z k hk => by
      have l1 := digs_length 3 x
      have e1 : tailOf x y z = digs 3 x ++ (cmpl (digs 3 x) ++ (tw 5 y ++ tw 7 z)) := by
        unfold tailOf
        rw [show tw 3 x = digs 3 x ++ cmpl (digs 3 x) from rfl, List.append_assoc]
      rw [e1]
      refine ⟨w0_app1 (by omega), ?_⟩
      have e2 := w0_app2 (a := digs 3 x) (b := cmpl (digs 3 x) ++ (tw 5 y ++ tw 7 z)) (p := k)
      rw [l1] at e2
      rw [e2, w0_app1 (by rw [List.length_map, l1]; exact hk)]
      refine w0_of ?_
      rw [List.getElem?_map, w0_get (by omega)]
      rfl
    have same : digs 3 (s0 ws) = digs 3 a := ext_w0 (by rw [digs_length, digs_length]) fun k hk => by
      rw [digs_length] at hk
      refine Decidable.byContradiction fun z => ?_
      have f1 := first (s0 ws) (s1 ws) (s2 ws) k hk
      have f2 := first a b c k hk
      have g1 := w0_lt (digs_ok 3 (s0 ws)) k
      have g2 := w0_lt (digs_ok 3 a) k
      have h1 := hu (226 + k) (by omega) (by omega) (by rw [cell, mine, f1.1, f2.1]; exact fun y => z y.symm)
      have h2 := hu (226 + (3 + k)) (by omega) (by omega) (by rw [cell, mine, f1.2, f2.2]; omega)
      omega
    have e3 := congrArg num same
    rw [num_digs, num_digs, Nat.mod_eq_of_lt (s0_lt ws)] at e3
    have := Nat.mod_le a (16 ^ 3)
    omega
/-- what the reader mends in the text, the program does -/
theorem try_ft {r : PyData} (h : tryH ws ((lift2 ws).bind fun p => dec (lifted ws p)) = some r) : ∃ t p, ft ws = some (t, p) := by
  cases h1 : lift2 ws with
  | none => rw [h1] at h; cases h
  | some p =>
    rw [h1] at h
    have h : tryH ws (dec (lifted ws p)) = some r := h
    obtain ⟨a, b, e, hp, hd, hw, e0⟩ := lift_some h1
    cases h2 : dec (lifted ws p) with
    | none => rw [h2] at h; cases h
    | some t =>
      rw [h2] at h
      have h : (if sealT t = ws then some (PyData.tuple [tx nW, tx t]) else (fal ws (sealT t)).map fun p => .tuple [tx nM, tx t, .int p]) = some r := h
      have hL := lifted_len ho hl p
      have hs := sealT_eq (L := lifted ws p) (raise_ok ho hw) (by rw [hL]; decide) h2
      have hlen : ((lifted ws p).take 226).length = 226 := by rw [List.length_take, hL]; rfl
      have hat : w0 (sealT t) p = w0 ws p + by2 ws := by
        rw [hs, w0_app1 (by omega), w0_take hp]
        unfold lifted
        exact w0_set_same (by omega)
      have hne : ¬ sealT t = ws := fun z => by rw [z] at hat; omega
      rw [if_neg hne] at h
      cases h3 : fal ws (sealT t) with
      | none => rw [h3] at h; cases h
      | some q =>
        have hu := (unl_mem (fal_some h3).1).2
        have hq : p = q := hu p (by omega) (by omega) (by omega)
        subst hq
        have hdrop : ws.drop 226 = tailOf (s0 (lifted ws p)) (s1 (lifted ws p)) (s2 (lifted ws p)) := by
          have hd2 : (sealT t).drop 226 = tailOf (s0 (lifted ws p)) (s1 (lifted ws p)) (s2 (lifted ws p)) := by rw [hs, List.drop_left' hlen]
          rw [← hd2]
          refine ext_w0 ?_ fun k hk => ?_
          · rw [hd2, tailOf_length, List.length_drop, hl]
          · rw [List.length_drop, hl] at hk
            rw [w0_drop, w0_drop]
            refine Decidable.byContradiction fun z => ?_
            have := hu (226 + k) (by omega) (by omega) z
            omega
        have ht := tail_told (s0_lt _) (s1_lt _) (s2_lt _) hdrop
        refine ⟨t, p, ft_mk ht hp hd hw ?_ ?_ ?_ h2⟩
        · have : s0 ws = s0 (lifted ws p) + by2 ws * 1 := lifted_sum ho hl f0 hp hw
          omega
        · exact lifted_sum ho hl f1 hp hw
        · exact lifted_sum ho hl f2 hp hw
theorem fs_fal {t : List Nat} (h : dec ws = some t) : fs ws = (fal ws (sealT t)).map fun p => (t, p) := by
  have hs := sealT_eq ho (by omega) h
  have hlen : (ws.take 226).length = 226 := by rw [List.length_take]; omega
  have e : ws.take 226 = (sealT t).take 226 := by rw [hs, List.take_left' hlen]
  unfold fs fal
  rw [h, unl_tail e]
  dsimp only
  cases q : unl ws (sealT t) 226 30 with
  | nil => rfl
  | cons p r =>
    cases r with
    | cons _ _ => rfl
    | nil =>
      have hne := (unl_mem q).1.2
      dsimp only
      by_cases z : w0 ws p < w0 (sealT t) p
      · rw [if_pos z, if_neg (by omega)]; rfl
      · rw [if_neg z, if_pos (by omega)]; rfl
/-- THE LAW'S CORE -/
theorem po_lo : po ws = lo ws := by
  unfold po lo
  by_cases hE : ws = List.replicate 256 15
  · rw [if_pos hE, if_pos hE]
  · rw [if_neg hE, if_neg hE]
    cases h1 : dec ws with
    | some t1 =>
      by_cases hs : sealT t1 = ws
      · dsimp only
        rw [if_pos (decide_eq_true hs)]
        show _ = match (if sealT t1 = ws then some (PyData.tuple [tx nW, tx t1]) else _) with | some r => r | none => _
        rw [if_pos hs]
        rfl
      · dsimp only
        rw [if_neg (by rw [decide_eq_true_eq]; exact hs)]
        show _ = match (if sealT t1 = ws then _ else (fal ws (sealT t1)).map fun p => PyData.tuple [tx nM, tx t1, .int p]) with | some r => r | none => _
        rw [if_neg hs]
        cases hf : ft ws with
        | some r =>
          obtain ⟨t, p⟩ := r
          rw [ft_head ho hl hf h1, ft_try ho hl hf]
          rfl
        | none =>
          have hn : tryH ws ((lift2 ws).bind fun p => dec (lifted ws p)) = none := by
            cases q : tryH ws ((lift2 ws).bind fun p => dec (lifted ws p)) with
            | none => rfl
            | some r =>
              obtain ⟨t, p, z⟩ := try_ft ho hl q
              rw [hf] at z
              cases z
          rw [hn, fs_fal ho hl h1]
          cases fal ws (sealT t1) <;> rfl
    | none =>
      dsimp only
      rw [if_neg Bool.false_ne_true]
      show _ = match (none : Option PyData) with | some r => r | none => _
      dsimp only
      cases hf : ft ws with
      | some r =>
        obtain ⟨t, p⟩ := r
        rw [ft_try ho hl hf]
      | none =>
        have hn : tryH ws ((lift2 ws).bind fun p => dec (lifted ws p)) = none := by
          cases q : tryH ws ((lift2 ws).bind fun p => dec (lifted ws p)) with
          | none => rfl
          | some r =>
            obtain ⟨t, p, z⟩ := try_ft ho hl q
            rw [hf] at z
            cases z
        have hz : fs ws = none := by unfold fs; rw [h1]
        rw [hn, hz]
end
end W9
namespace W9
open PySem PySem.Spec PyProof.Rows L2
theorem EI.is {X : Cx} {tg e : Expr} {ds : DE} {xs ys : List SD} (h : EI X tg e ds xs) (q : xs = ys) : EI X tg e ds ys := by rw [← q]; exact h
theorem rng_of {x n : Int} (h : (!(decide (0 ≤ x) && decide (x < n))) = false) : 0 ≤ x ∧ x < n := by
  rw [Bool.not_eq_false', Bool.and_eq_true, decide_eq_true_eq, decide_eq_true_eq] at h
  exact h
theorem cut_ok {ws : List Nat} (ho : Ok ws) (lo hi : Option Int) : Ok (cut ws lo hi) := (ho.dp _).tk _
theorem cut_le {α : Type} {l : List α} {lo hi : Option Int} {n : Nat} (h : l.length ≤ n) : (cut l lo hi).length ≤ n := by
  unfold cut
  rw [List.length_take, List.length_drop]
  omega
theorem sd_hexN {X : Cx} {m : MS} {i : Int} (h0 : 0 ≤ i) (h : i < 16) : SubD X m (S hexS) (I i) (C [i.toNat]) := sd_hex (by omega) (by omega)
theorem rep_ok {n w : Nat} (h : w < 16) : Ok (rep n [w]) := by rw [rep_one]; exact Ok.rep h
theorem wk_get {i : Nat} {x : SD} (h : ([PyData.int 3, .int 5, .int 7].map SD.py)[i]? = some x) : i < 3 ∧ x = I (wk i : Nat) := by
  match i, h with
  | 0, h => cases h; exact ⟨by decide, rfl⟩
  | 1, h => cases h; exact ⟨by decide, rfl⟩
  | 2, h => cases h; exact ⟨by decide, rfl⟩
  | i + 3, h => simp at h
theorem atw_le {i : Nat} (h : i < 3) : atw i ≤ 242 ∧ wk i ≤ 7 := by
  match i, h with
  | 0, _ => decide
  | 1, _ => decide
  | 2, _ => decide
def tolP : Option (Nat × Nat × Nat) → PyData
  | none => .none
  | some (a, b, c) => .tuple [.int a, .int b, .int c]
theorem tolds_no {ws : List Nat} {i : Nat} (hi : i < 3) (h : ¬ cnd ws i) : tolds ws = none := if_neg fun ⟨h0, h1, h2⟩ => by
  match i, hi with
  | 0, _ => exact h h0
  | 1, _ => exact h h1
  | 2, _ => exact h h2
theorem tolds_yes {ws : List Nat} (h : ∀ j, j < 3 → cnd ws j) : tolds ws = some (nums ws 0, nums ws 1, nums ws 2) := if_pos ⟨h 0 (by decide), h 1 (by decide), h 2 (by decide)⟩
def ftP : Option (List Nat × Nat) → PyData
  | none => .none
  | some (t, p) => .tuple [tx t, .int p]
section
variable {ws : List Nat} {a b c : Nat}
theorem ft_no0 (e : tolds ws = none) : ft ws = none := by
  unfold ft
  rw [e]
theorem ft_no (e : tolds ws = some (a, b, c)) (h : (s0 ws : Int) - a < 1 ∨ ((s1 ws : Int) - b) % ((s0 ws : Int) - a) ≠ 0) : ft ws = none := by
  unfold ft
  rw [e]
  dsimp only
  exact if_neg fun z => z.1 h
theorem ft_no2 (e : tolds ws = some (a, b, c)) (h : ¬ (0 ≤ ((s1 ws : Int) - b) / ((s0 ws : Int) - a) - 1 ∧ ((s1 ws : Int) - b) / ((s0 ws : Int) - a) - 1 < 226) ∨ (s2 ws : Int) - c ≠ ((s1 ws : Int) - b) * (((s1 ws : Int) - b) / ((s0 ws : Int) - a) - 1 + 1) ∨ w0 ws (((s1 ws : Int) - b) / ((s0 ws : Int) - a) - 1).toNat + ((s0 ws : Int) - a) > 15) : ft ws = none := by
  unfold ft
  rw [e]
  dsimp only
  exact if_neg fun z => z.2 h
theorem ft_yes (e : tolds ws = some (a, b, c)) (h : ¬ ((s0 ws : Int) - a < 1 ∨ ((s1 ws : Int) - b) % ((s0 ws : Int) - a) ≠ 0))
    (h2 : ¬ (¬ (0 ≤ ((s1 ws : Int) - b) / ((s0 ws : Int) - a) - 1 ∧ ((s1 ws : Int) - b) / ((s0 ws : Int) - a) - 1 < 226) ∨ (s2 ws : Int) - c ≠ ((s1 ws : Int) - b) * (((s1 ws : Int) - b) / ((s0 ws : Int) - a) - 1 + 1) ∨ w0 ws (((s1 ws : Int) - b) / ((s0 ws : Int) - a) - 1).toNat + ((s0 ws : Int) - a) > 15)) : ft ws = (dec (lifted ws (((s1 ws : Int) - b) / ((s0 ws : Int) - a) - 1).toNat)).map fun t => (t, (((s1 ws : Int) - b) / ((s0 ws : Int) - a) - 1).toNat) := by
  unfold ft
  rw [e]
  dsimp only
  exact if_pos ⟨h, h2⟩
theorem tolds_a (e : tolds ws = some (a, b, c)) : a = nums ws 0 := by
  unfold tolds at e
  split at e
  · cases e; rfl
  · cases e
end
theorem set_cut {ws : List Nat} {p v : Nat} {i j : Int} (hp : p < ws.length) (h1 : i = (p : Int)) (h2 : j = (p : Int) + 1) : cut ws none (some i) ++ [v] ++ cut ws (some j) none = ws.set p v := by
  have e : j = ((p + 1 : Nat) : Int) := by omega
  subst h1
  rw [e, cut_0n, cut_n0, List.set_eq_take_append_cons_drop, if_pos hp, List.append_assoc]
  rfl
section
variable {X : Cx} {m : MS} {ds : DE} {e c a b tg elt iter : Expr} {es : List Expr} {pos : Pos}
theorem ws_setLcf {α : Type} {j i : Nat} {x y : Str} {tpos py spos : Pos} {scope : Scope} {E : ED} (l : List α) (g : α → SD) (p : α → Bool) (h : α → PyData) (own : List (Str × Nat)) (ho : own.map (·.2) = [j]) (hN : X.N.Nodup) (it : EI X (.Name x tpos) iter ds (l.map g)) (hl : l.length ≤ 1000000)
    (test : ∀ a ∈ l, AllBlk X scope fun Y => ET Y c ((ds.set j none).set j (some (g a))) (p a))
    (turn : ∀ a ∈ l, p a = true → AllBlk X scope fun Y => EE Y elt ((ds.set j none).set j (some (g a))) (.py (h a)))
    (wg : ∀ s H C cl fp d (ds : DE) m (Q : DE → MS → Prop), Q (ds.set j (some d)) m → WG (Blk X scope s H C cl fp) (.Name x tpos) [j] d ds m Q)
    (ok : BlkOk X.N X.env.scope scope own) (q : E.nx (ds.set i (some (Ls ((l.filter p).map h)))) m) (hsw : swapsWith (.ListComp elt [⟨.Name x tpos, iter, [c], 0⟩] scope pos) (some (.Name y py)) spos.line X.env = pure true := by rfl) (hi : X.N[i]? = some y := by rfl) (hyl : X.env.scope.names.lookup y = some .local := by rfl)
    (hc : X.calm = true := by rfl) (hs : ∀ x, foldedSetIterable iter X.env x = pure x := by intro _; rfl) : WS X (.Assign [.Name y py] (.ListComp elt [⟨.Name x tpos, iter, [c], 0⟩] scope pos) spos) ds m E :=
  ws_setLc own hN (it.to ⟨by rw [List.length_map]; exact hl, fun i acc m' => acc = ((l.take i).filter p).map h ∧ m' = m, ⟨rfl, rfl⟩, fun i y acc m' hy _ ⟨e1, e2⟩ => by
    subst e1 e2
    rw [ho]
    obtain ⟨a, q, rfl⟩ := map_get hy
    have hm := List.mem_of_getElem? q
    refine fun s H C cl fp => wg _ _ _ _ _ _ _ _ _ fun s H C cl fp => wts_one ((test a hm s H C cl fp).to ?_)
    cases z : p a with
    | true =>
      rw [if_pos rfl]
      refine fun s H C cl fp => (turn a hm z s H C cl fp).to ⟨_, rfl, ?_, rfl⟩
      rw [List.take_add_one, q, List.filter_append, List.map_append]
      show _ = _ ++ ([a].filter p).map h
      rw [List.filter_cons_of_pos z]
      rfl
    | false =>
      rw [if_neg Bool.false_ne_true]
      refine ⟨?_, rfl⟩
      rw [List.take_add_one, q, List.filter_append, List.map_append]
      show _ = _ ++ ([a].filter p).map h
      rw [List.filter_cons_of_neg (by rw [z]; exact Bool.false_ne_true)]
      simp, fun acc m' _ ⟨e1, e2⟩ => by
    rw [List.length_map, List.take_length] at e1
    subst e1 e2
    exact q⟩) ok hsw hi hyl hc hs
theorem ws_setLcm {α : Type} {j i : Nat} {x y : Str} {tpos py spos : Pos} {scope : Scope} {E : ED} (l : List α) (g : α → SD) (h : α → PyData) (own : List (Str × Nat)) (ho : own.map (·.2) = [j]) (hN : X.N.Nodup) (it : EI X (.Name x tpos) iter ds (l.map g)) (hl : l.length ≤ 1000000)
    (turn : ∀ a ∈ l, AllBlk X scope fun Y => EE Y elt ((ds.set j none).set j (some (g a))) (.py (h a)))
    (wg : ∀ s H C cl fp d (ds : DE) m (Q : DE → MS → Prop), Q (ds.set j (some d)) m → WG (Blk X scope s H C cl fp) (.Name x tpos) [j] d ds m Q)
    (ok : BlkOk X.N X.env.scope scope own) (q : E.nx (ds.set i (some (Ls (l.map h)))) m) (hsw : swapsWith (.ListComp elt [⟨.Name x tpos, iter, [], 0⟩] scope pos) (some (.Name y py)) spos.line X.env = pure true := by rfl) (hi : X.N[i]? = some y := by rfl) (hyl : X.env.scope.names.lookup y = some .local := by rfl)
    (hc : X.calm = true := by rfl) (hs : ∀ x, foldedSetIterable iter X.env x = pure x := by intro _; rfl) : WS X (.Assign [.Name y py] (.ListComp elt [⟨.Name x tpos, iter, [], 0⟩] scope pos) spos) ds m E :=
  ws_setLc own hN (it.to ⟨by rw [List.length_map]; exact hl, fun i acc m' => acc = (l.take i).map h ∧ m' = m, ⟨rfl, rfl⟩, fun i y acc m' hy _ ⟨e1, e2⟩ => by
    subst e1 e2
    rw [ho]
    obtain ⟨a, q, rfl⟩ := map_get hy
    refine fun s H C cl fp => wg _ _ _ _ _ _ _ _ _ fun s H C cl fp => wts_nil ?_
    rw [if_pos rfl]
    refine fun s H C cl fp => (turn a (List.mem_of_getElem? q) s H C cl fp).to ⟨_, rfl, ?_, rfl⟩
    rw [List.take_add_one, q, List.map_append]
    rfl, fun acc m' _ ⟨e1, e2⟩ => by
    rw [List.length_map, List.take_length] at e1
    subst e1 e2
    exact q⟩) ok hsw hi hyl hc hs
theorem tru_ftP {r : Option (List Nat × Nat)} : TruD X (.py (ftP r)) r.isSome := by
  cases r with
  | none => exact tru_non
  | some q => exact tru_tup
end
theorem rng_unl {n lo : Int} (hn : n = 256) (hlo : lo = 226) : ((List.range (n - lo).toNat).map fun (i : Nat) => I (lo + (i : Int))) = ((List.range 30).map (226 + ·)).map fun (a : Nat) => I (a : Int) := by
  subst hn hlo
  rw [List.map_map]
  rfl
end W9
namespace W9
open PySem PySem.Spec PyProof.Rows L2
/-! ### a dict of signs by their numbers -/
def oneK (c : Nat) : Key × V := (Sum.inl (c : Int), V.str ⟨#[c]⟩)
abbrev sgs : List Nat := lowS ++ highS ++ [10]
def kn : List (Key × V) := mergeK [] (sgs.map oneK)
theorem kn_get : ∀ n < 256, valV kn (Sum.inl ((n : Nat) : Int)) = if al n = true then some (V.str ⟨#[n]⟩) else none := by decide +kernel
theorem pairs_kvs {K : PySem.W.Frag} {G : Hp} : ∀ {l : List Nat} {vs : List V}, DpAll K G vs (l.map fun c => PyData.tuple [.int (c : Nat), .str ⟨[c].toArray⟩]) → ∃ ps : List Addr, vs = ps.map V.ref ∧ Paired (fun p (kv : Key × V) => SqT K G p [kV kv.1, kv.2]) ps (l.map oneK)
  | [], _, h => by cases h; exact ⟨[], rfl, .nil⟩
  | c :: l, _, h => by
    cases h with
    | cons h1 h2 =>
      obtain ⟨ps, e1, e2⟩ := pairs_kvs h2
      cases h1 with
      | tup t1 t2 =>
        cases t2 with
        | cons u1 u2 =>
          cases u1
          cases u2 with
          | cons u2 u3 =>
            cases u3
            cases u2
            exact ⟨_ :: ps, by rw [e1]; rfl, .cons t1 e2⟩
theorem paired_mono {K : PySem.W.Frag} {G G' : Hp} (e : Ex G G') : ∀ {ps : List Addr} {kvs : List (Key × V)}, Paired (fun p (kv : Key × V) => SqT K G p [kV kv.1, kv.2]) ps kvs → Paired (fun p (kv : Key × V) => SqT K G' p [kV kv.1, kv.2]) ps kvs
  | _, _, .nil => .nil
  | _, _, .cons h t => .cons (ex_t e h) (paired_mono e t)
section
variable {X : Cx} {m : MS} {ds : DE} {e c a b tg elt iter : Expr} {es : List Expr} {pos p : Pos}
theorem we_dictS {l : List Nat} {x : Str} {P : SD → MS → Prop} (h : EE X e ds (Ls (l.map fun c => PyData.tuple [.int (c : Nat), .str ⟨[c].toArray⟩]))) (k : ∀ p, p ∉ ad m → P (.raw (.ref p)) ((p, .ho (.dK (mergeK [] (l.map oneK)))) :: m))
    (hm : X.mg x = none) (hv : bootBuiltins x = some (.type "dict")) (hc : X.calm = true := by rfl) (hg : Gl X x := by rfl) (hn : x ≠ "__name__" := by decide) (hdb : (x == ("__debug__" : Str)) = false := by decide)
    (he : starEach (e :: []) X.env = (false, eval e X.env) :: starEach [] X.env := by rfl) (hpl : (backTo pos (starEach [] X.env)).any (·.1) = false := by rfl) : WE X (.Call (.Name x p) [e] [] pos) ds m P := fun σ G H E w Q q =>
  oE (pe_callTy (call_dictP hc) hg hm hv (pA [e]) hn hdb he hpl) ((ea_cons h ea_nil he : EA X [e] ds _) m σ G H E w _ fun vs xs m1 G1 H1 g1 r1 ⟨e1, e2⟩ => by
    subst e1 e2
    cases r1 with
    | cons r1 r2 =>
      cases r2
      obtain ⟨f, us, rfl, h1, h2⟩ := ds_lst r1
      obtain ⟨ps, rfl, h3⟩ := pairs_kvs h2
      refine ⟨f, ps, _, rfl, ex_l g1.wd.w h1, paired_mono g1.wd.w h3, fun p hp => ?_⟩
      have g2 := Gr.made (o := .dK (mergeK [] (l.map oneK))) (v := .ho (.dK (mergeK [] (l.map oneK)))) g1.wd hp rfl
      exact q _ _ _ _ _ (g1.trans g2) (.raw _) (k p (List.nodup_cons.mp g2.wd.nd).1))
/-- f(), with what is owned -/
theorem wg_call0 {k : Nat} {f : Addr} {fd : FuncData} {F : FT} {x : Str} {P : SD → MS → Prop} (FO : FnG X.prog X.w X.K X.mg X.base CX0 k f fd [] (SpD X.K F)) (hr : Rm k X.A) (hm : X.mg x = some (.ref f)) (hk : PySem.W.keepIn X.K (.ref f) = true) (hb : Binds X.K fd [] [])
    (h : ∃ fr mc, m = fr ++ mc ∧ F [] mc fun d m2 => P d (fr ++ m2)) (hg : Gl X x := by rfl) (hdb : (x == ("__debug__" : Str)) = false := by decide) : WE X (.Call (.Name x p) [] [] pos) ds m P := fun σ G H E w Q q => by
  intro pins s J
  obtain ⟨fr, mc, rfl, hF⟩ := h
  refine wpAny_Call_Name_kw (ld_glob J hg hm ?_ hdb)
  exact PySem.W.callWith_K0 J.kIn hk (wpAny_call (codeAny_mono (run_fnG (vs := []) (us := []) (Q := Q) FO hr (hb s [] J.kIn rfl) pass0 J .nil ⟨G, mc, [], _, w.sub, .nil, hF, fun v d m' G' H' g2 r2 p => q v d _ G' H' (Gr.frame w g2) r2 p⟩) fun rr s' hq => by
      match rr, hq with
      | .error e, hq => exact hq
      | .ok (.ret u), hq => exact hq
      | .ok .next, hq => exact hq.elim
      | .ok .brk, hq => exact hq.elim
      | .ok .cont, hq => exact hq.elim))
/-- [elt for x in l] that reads what is owned -/
theorem we_lcW {α : Type} {j : Nat} {x : Str} {tpos : Pos} {scope : Scope} {P : SD → MS → Prop} (l : List α) (g : α → SD) (h : α → PyData) (own : List (Str × Nat)) (ho : own.map (·.2) = [j]) (hN : X.N.Nodup) (hi : EI X (.Name x tpos) iter ds (l.map g)) (hl : l.length ≤ 1000000)
    (turn : ∀ a ∈ l, AllBlk X scope fun Y => WE Y elt ((ds.set j none).set j (some (g a))) m fun d m' => d = .py (h a) ∧ m' = m)
    (wg : ∀ s H C cl fp d (ds : DE) m (Q : DE → MS → Prop), Q (ds.set j (some d)) m → WG (Blk X scope s H C cl fp) (.Name x tpos) [j] d ds m Q)
    (ok : BlkOk X.N X.env.scope scope own) (q : P (Ls (l.map h)) m) (hc : X.calm = true := by rfl) (hs : ∀ x, foldedSetIterable iter X.env x = pure x := by intro _; rfl) : WE X (.ListComp elt [⟨.Name x tpos, iter, [], 0⟩] scope pos) ds m P :=
  we_lc own hN (hi.to ⟨by rw [List.length_map]; exact hl, fun i acc m' => acc = (l.take i).map h ∧ m' = m, ⟨rfl, rfl⟩, fun i y acc m' hy _ ⟨e1, e2⟩ => by
    subst e1 e2
    rw [ho]
    obtain ⟨a, q, rfl⟩ := map_get hy
    refine fun s H C cl fp => wg _ _ _ _ _ _ _ _ _ fun s H C cl fp => wts_nil ?_
    rw [if_pos rfl]
    refine fun s H C cl fp => (turn a (List.mem_of_getElem? q) s H C cl fp).mono fun d m4 ⟨e1, e2⟩ => ⟨_, e1, ?_, e2⟩
    rw [List.take_add_one, q, List.map_append]
    rfl, fun acc m' _ ⟨e1, e2⟩ => by
    rw [List.length_map, List.take_length] at e1
    subst e1 e2
    exact q⟩) ok hc hs
theorem md_joinSf {α : Type} {l : List α} {f : α → List Nat} {k : Nat} (hk : ∀ a ∈ l, (f a).length ≤ k) (hz : l.length * k ≤ 1000000) : MtD X "str" "str.join" m (S []) [Ls (l.map fun a => PyData.str ⟨(f a).toArray⟩)] (S (l.map f).flatten) := by
  have z : MtD X "str" "str.join" m (S []) [Ls (txts (l.map f))] (S (joinL [] (l.map f))) := md_join (by
    have e : ((l.map f).map List.length).sum ≤ l.length * k := by
      clear hz
      induction l with
      | nil => exact Nat.zero_le _
      | cons a l ih =>
        rw [List.map_cons, List.map_cons, List.sum_cons, List.length_cons, Nat.succ_mul]
        have h1 := ih fun b hb => hk b (List.mem_cons_of_mem _ hb)
        have h2 := hk a List.mem_cons_self
        omega
    simp only [List.length_nil, Nat.mul_zero, Nat.add_zero]
    omega)
  rw [joinL_nil] at z
  unfold txts at z
  rw [List.map_map] at z
  exact z
end
/-! ### the reader's text -/
abbrev manyN (ws : List Nat) : Nat := ((ps ws).filter (· != 255)).length
abbrev oneL (c : Nat) : List Nat := if al c = true then [c] else []
theorem one_flat (l : List Nat) : (l.map oneL).flatten = l.filter al := by
  induction l with
  | nil => rfl
  | cons c l ih =>
    rw [List.map_cons, List.flatten_cons, ih]
    by_cases h : al c = true
    · rw [List.filter_cons_of_pos h]
      show (if al c = true then [c] else []) ++ _ = _
      rw [if_pos h]
      rfl
    · rw [List.filter_cons_of_neg h]
      show (if al c = true then [c] else []) ++ _ = _
      rw [if_neg h]
      rfl
def decL (ws : List Nat) : Option (List Nat) :=
  let t := ((ps ws).take (manyN ws)).filter al
  if t.length = manyN ws ∧ (ws.take 226).drop (2 * manyN ws) = List.replicate (226 - 2 * manyN ws) 15 then some t else none
theorem decL_dec {ws : List Nat} (ho : Ok ws) (hl : 226 ≤ ws.length) : decL ws = dec ws := by
  have hpl := ps_length hl
  have hm : manyN ws ≤ 113 := by
    have := List.length_filter_le (· != 255) (ps ws)
    show ((ps ws).filter (· != 255)).length ≤ 113
    omega
  unfold decL
  dsimp only
  by_cases h : (((ps ws).take (manyN ws)).filter al).length = manyN ws ∧ (ws.take 226).drop (2 * manyN ws) = List.replicate (226 - 2 * manyN ws) 15
  · rw [if_pos h]
    obtain ⟨h1, h2⟩ := h
    have hall : ((ps ws).take (manyN ws)).filter al = (ps ws).take (manyN ws) := by
      refine List.Sublist.eq_of_length List.filter_sublist ?_
      rw [h1, List.length_take]
      omega
    rw [hall]
    symm
    have hlen : ((ps ws).take (manyN ws)).length = manyN ws := by rw [List.length_take]; omega
    refine dec_of (isT_mk (fun c hc => ?_) ?_)
    · rw [← hall] at hc
      exact (List.mem_filter.mp hc).2
    · rw [hlen]
      conv => lhs; rw [← List.take_append_drop (manyN ws) (ps ws)]
      congr 1
      unfold ps
      rw [pairs_drop, h2]
      have e : 226 - 2 * manyN ws = 2 * (113 - manyN ws) := by omega
      rw [e, ← enc_rep]
      exact pairs_enc fun c hc => by
        have := List.eq_of_mem_replicate hc
        omega
  · rw [if_neg h]
    symm
    refine dec_none fun t ht => h ?_
    have he := isT_eq ht
    have hT := isT_okT ht
    have htl := isT_len hl ht
    have hcount : manyN ws = t.length := by
      show ((ps ws).filter (· != 255)).length = _
      rw [he, List.filter_append]
      have z : (List.replicate (113 - t.length) 255).filter (· != 255) = [] := by
        rw [List.filter_eq_nil_iff]
        intro c hc
        rw [List.eq_of_mem_replicate hc]
        decide
      have z2 : t.filter (· != 255) = t := by
        rw [List.filter_eq_self]
        exact fun c hc => al_ne (hT c hc)
      rw [z, z2, List.append_nil]
    have htake : (ps ws).take (manyN ws) = t := by rw [he, hcount, List.take_left' rfl]
    refine ⟨?_, ?_⟩
    · rw [htake, hcount]
      congr 1
      rw [List.filter_eq_self]
      exact hT
    · rw [hcount, ← (isT_cells ho hl hT htl).mp ht]
      unfold cellsOf
      rw [← enc_length t, List.drop_left' rfl]
/-! ### the reader's answers -/
def t2P : Option (Nat × Nat) → PyData
  | none => .none
  | some (a, b) => .list [.int a, .int b]
def falP : Option Nat → PyData
  | none => .none
  | some p => .int p
end W9
namespace W9
open PySem PySem.Spec PyProof.Rows L2
theorem hex_nums {ws : List Nat} (hl : 226 ≤ ws.length) : ((List.range 113).map fun (a : Nat) => PyData.int ((num (cut ws (some (0 + (a : Int) * 2)) (some (0 + (a : Int) * 2 + 2))) : Nat) : Int)) = (ps ws).map fun (n : Nat) => PyData.int (n : Int) := by
  refine List.ext_getElem? fun i => ?_
  rw [List.getElem?_map, List.getElem?_map]
  by_cases hi : i < 113
  · have e : (ps ws)[i]? = some (num ((ws.drop (2 * i)).take 2)) := by
      unfold ps
      rw [pairs_get (by rw [List.length_take]; omega), List.drop_take, List.take_take, Nat.min_eq_left (by omega)]
    rw [List.getElem?_range hi, e]
    have e2 : cut ws (some (0 + (i : Int) * 2)) (some (0 + (i : Int) * 2 + 2)) = (ws.drop (2 * i)).take 2 := (cut_nat (a := 2 * i) (b := 2 * i + 2) ws (by omega) (by omega)).trans (by rw [Nat.add_sub_cancel_left])
    show some (PyData.int ((num (cut ws (some (0 + (i : Int) * 2)) (some (0 + (i : Int) * 2 + 2))) : Nat) : Int)) = _
    rw [e2]
    rfl
  · rw [List.getElem?_eq_none (by rw [List.length_range]; omega), List.getElem?_eq_none (by rw [ps_length hl]; omega)]
    rfl
theorem int_ne255 {n : Nat} : (!decide (((n : Nat) : Int) = 255)) = (n != 255) := by
  by_cases h : n = 255
  · subst h; decide
  · have h2 : ¬ ((n : Int) = 255) := by omega
    rw [decide_eq_false h2]
    simp [h]
theorem wk_get2 {i : Nat} {x : SD} (h : ([PyData.tuple [.int 226, .int 3], .tuple [.int 232, .int 5]].map SD.py)[i]? = some x) : i < 2 ∧ x = Tp [.int (atw i : Nat), .int (wk i : Nat)] := by
  match i, h with
  | 0, h => cases h; exact ⟨by decide, rfl⟩
  | 1, h => cases h; exact ⟨by decide, rfl⟩
  | i + 2, h => simp at h
theorem told2_no {ws : List Nat} {i : Nat} (hi : i < 2) (h : ¬ cnd ws i) : told2 ws = none := if_neg fun ⟨h0, h1⟩ => by
  match i, hi with
  | 0, _ => exact h h0
  | 1, _ => exact h h1
theorem told2_yes {ws : List Nat} (h : ∀ j, j < 2 → cnd ws j) : told2 ws = some (nums ws 0, nums ws 1) := if_pos ⟨h 0 (by decide), h 1 (by decide)⟩
theorem told2_a {ws : List Nat} {a b : Nat} (e : told2 ws = some (a, b)) : a = nums ws 0 := by
  unfold told2 at e
  split at e
  · cases e; rfl
  · cases e
section
variable {ws : List Nat} {a b : Nat}
theorem lift_no0 (e : told2 ws = none) : lift2 ws = none := by
  unfold lift2
  rw [e]
theorem lift_no (e : told2 ws = some (a, b)) (h : ¬ (1 ≤ (s0 ws : Int) - a ∧ (s0 ws : Int) - a ≤ 15)) : lift2 ws = none := by
  unfold lift2
  rw [e]
  dsimp only
  exact if_neg fun z => h z.1
theorem lift_no2 (e : told2 ws = some (a, b)) (h : ¬ (0 ≤ ((s1 ws : Int) - b) / ((s0 ws : Int) - a) - 1 ∧ ((s1 ws : Int) - b) / ((s0 ws : Int) - a) - 1 < 226) ∨ (s1 ws : Int) - b ≠ ((s0 ws : Int) - a) * (((s1 ws : Int) - b) / ((s0 ws : Int) - a) - 1 + 1) ∨ w0 ws (((s1 ws : Int) - b) / ((s0 ws : Int) - a) - 1).toNat + ((s0 ws : Int) - a) > 15) : lift2 ws = none := by
  unfold lift2
  rw [e]
  dsimp only
  exact if_neg fun z => by
    rcases h with h | h | h
    · exact h z.2.1
    · exact h z.2.2.1
    · have := z.2.2.2; omega
theorem lift_yes (e : told2 ws = some (a, b)) (h : 1 ≤ (s0 ws : Int) - a ∧ (s0 ws : Int) - a ≤ 15) (h1 : 0 ≤ ((s1 ws : Int) - b) / ((s0 ws : Int) - a) - 1 ∧ ((s1 ws : Int) - b) / ((s0 ws : Int) - a) - 1 < 226) (h2 : (s1 ws : Int) - b = ((s0 ws : Int) - a) * (((s1 ws : Int) - b) / ((s0 ws : Int) - a) - 1 + 1))
    (h3 : w0 ws (((s1 ws : Int) - b) / ((s0 ws : Int) - a) - 1).toNat + ((s0 ws : Int) - a) ≤ 15) : lift2 ws = some (((s1 ws : Int) - b) / ((s0 ws : Int) - a) - 1).toNat := by
  unfold lift2
  rw [e]
  dsimp only
  exact if_pos ⟨h, h1, h2, h3⟩
end
def lifP (ws : List Nat) : PyData := match lift2 ws with
  | none => .none
  | some p => .str ⟨((lifted ws p).map dig).toArray⟩
theorem dig_ltS {a b : Nat} (ha : a < 16) (hb : b < 16) : decide ([dig a] < [dig b]) = decide (a < b) := by
  refine decide_eq_decide.mpr ?_
  rw [List.cons_lt_cons_iff, dig_lt ha hb]
  constructor
  · rintro (h | ⟨_, h⟩)
    · exact h
    · cases h
  · exact Or.inl
theorem cd_ltC {X : Cx} {a b : Nat} (ha : a < 16) (hb : b < 16) : CmpD X .Lt (C [a]) (C [b]) (decide (a < b)) := by
  have z : CmpD X .Lt (S [dig a]) (S [dig b]) (decide ([dig a] < [dig b])) := cd_ltS
  rw [dig_ltS ha hb] at z
  exact z
theorem dec_take (ws : List Nat) : dec (ws.take 226) = dec ws := by
  have e : ∀ t, isT (ws.take 226) t = isT ws t := fun t => by
    unfold isT ps
    rw [List.take_take, Nat.min_self]
  unfold dec
  unfold ps
  rw [List.take_take, Nat.min_self]
  dsimp only
  rw [e]
end W9
namespace W9
open PySem PySem.Spec PyProof.Rows L2
/-! ### reading what is owned: as if it were plain data, for scalars -/
def del (G : Hp) (p : Addr) : Hp := fun a => if a = p then none else G a
theorem del_same {G : Hp} {p : Addr} : del G p p = none := if_pos rfl
theorem del_ne {G : Hp} {p a : Addr} (h : a ≠ p) : del G p a = G a := if_neg h
section
variable {K : PySem.W.Frag} {m : MS} {G H G' H' : Hp} {p : Addr} {v : OV} {o : HO}
theorem Gr.view (w : Wd K m G H) (hp : (p, v) ∈ m) (ho : H p = some o) (g : Gr K [] [] (upd G p o) H G' H') : Gr K m m G H (del G' p) H' := by
  have gp : G p = none := (w.own _ hp).1
  have ex : Ex G (del G' p) := fun a u e => by
    have ne : a ≠ p := fun z => by rw [z, gp] at e; cases e
    rw [del_ne ne]
    exact g.g a u (by rw [upd_ne ne]; exact e)
  have keep : ∀ a u, H a = some u → H' a = some u := fun a u e => g.h a u (fun z => nomatch z) e
  have gone : ∀ a, G a = none → H a ≠ none → del G' p a = none := fun a e f => by
    by_cases ne : a = p
    · rw [ne]; exact del_same
    · rw [del_ne ne]
      exact g.fr a (fun z => nomatch z) (by rw [upd_ne ne]; exact e) f
  refine ⟨ex, fun a u _ e => keep a u e, g.th, fun a _ e f => gone a e f, fun q hq => .inl (mem_ad hq), ⟨fun a u e => ?_, fun q hq => ?_, w.nd⟩⟩
  · have ne : a ≠ p := fun z => by rw [z, del_same] at e; cases e
    rw [del_ne ne] at e
    exact g.wd.w a u e
  · obtain ⟨h1, u, h2, h3⟩ := w.own q hq
    exact ⟨gone _ h1 (nn h2), u, keep _ _ h2, ov_mono ex h3⟩
theorem Wd.view (w : Wd K m G H) (hp : (p, v) ∈ m) (ho : H p = some o) : Wd K [] (upd G p o) H := by
  refine ⟨fun a u e => ?_, fun q hq => (nomatch hq), List.nodup_nil⟩
  by_cases z : a = p
  · subst z; rw [upd_same] at e; cases e; exact ho
  · rw [upd_ne z] at e; exact w.w a u e
end
def Scal (d : PyData) : Prop := ∀ (K : PySem.W.Frag) (G G' : Hp) (v : V), Dp K G v d → Dp K G' v d
theorem sc_int {i : Int} : Scal (.int i) := fun K G G' v h => by cases h; exact .int i
theorem sc_bl {i : Bool} : Scal (.bool i) := fun K G G' v h => by cases h; exact .bl i
theorem sc_str {i : Str} : Scal (.str i) := fun K G G' v h => by cases h; exact .str i
section
variable {X : Cx} {m : MS} {ds : DE} {e c a b tg elt iter : Expr} {es : List Expr} {pos : Pos}
theorem we_view {i : Nat} {p : Addr} {l : List PyData} {d : PyData} {P : SD → MS → Prop} (hd : ds[i]? = some (some (.raw (.ref p)))) (hm : (p, OV.dl l) ∈ m) (h : EE X e (ds.set i (some (Ls l))) (.py d)) (sc : Scal d) (k : P (.py d) m) : WE X e ds m P := fun σ G H E w Q q => by
  obtain ⟨vs, h1, h2⟩ := own_get w hm
  obtain ⟨v, hv, hr⟩ := E.2 i _ hd
  cases ds_raw hr
  have exG : Ex G (upd G p (.lst vs)) := Ex.new (w.own _ hm).1
  have e1 : EnvD X.K (upd G p (.lst vs)) σ (ds.set i (some (Ls l))) := (E.mono exG).retype hv (.py (.lst (SqL.of upd_same) (dpa_mono exG h2)))
  exact h [] σ (upd G p (.lst vs)) H e1 (w.view hm h1) Q fun u d' m' G' H' g r ⟨z1, z2⟩ => by
    subst z1 z2
    refine q u _ m _ H' (Gr.view w hm h1 g) ?_ k
    cases r with
    | py r => exact .py (sc _ _ _ _ r)
theorem wt_view {i : Nat} {p : Addr} {l : List PyData} {k : Bool} {P : Bool → MS → Prop} (hd : ds[i]? = some (some (.raw (.ref p)))) (hm : (p, OV.dl l) ∈ m) (h : ET X e (ds.set i (some (Ls l))) k) (hk : P k m) : WT X e ds m P := fun σ G H E w Q q => by
  obtain ⟨vs, h1, h2⟩ := own_get w hm
  obtain ⟨v, hv, hr⟩ := E.2 i _ hd
  cases ds_raw hr
  have exG : Ex G (upd G p (.lst vs)) := Ex.new (w.own _ hm).1
  have e1 : EnvD X.K (upd G p (.lst vs)) σ (ds.set i (some (Ls l))) := (E.mono exG).retype hv (.py (.lst (SqL.of upd_same) (dpa_mono exG h2)))
  exact h [] σ (upd G p (.lst vs)) H e1 (w.view hm h1) Q fun b m' G' H' g ⟨z1, z2⟩ => by
    subst z1 z2
    exact q _ m _ H' (Gr.view w hm h1 g) hk
/-- p[j] = e, p owned at the head -/
theorem ws_storeV {o ix : Expr} {tpos : Pos} {i : Nat} {p : Addr} {l : List PyData} {j : Int} {d : PyData} {E : ED} (hpf : p ∉ ad m) (hd : ds[i]? = some (some (.raw (.ref p)))) (ho : EE X o ds (.raw (.ref p))) (hi : EE X ix ds (PySem.PyData.int j |> SD.py))
    (h : EE X e (ds.set i (some (Ls l))) (.py d)) (sc : Scal d) (h0 : 0 ≤ j) (hj : j < l.length) (q : E.nx ds ((p, .dl (l.set j.toNat d)) :: m))
    (ha : ∀ v, assign (.Subscript o ix tpos) X.env v = (do
      let ov ← holding [v] (eval o X.env)
      let iv ← holding [v, ov] (eval ix X.env)
      standAt tpos
      holding [v, ov, iv] (setItem ov iv v)
      release [v, ov, iv] []) := by intro _; rfl) (hs : swapsWithSole [.Subscript o ix tpos] e pos.line X.env = pure false := by rfl) (hw : swappedStores [.Subscript o ix tpos] e X.env = pure none := by rfl)
    (h1 : (assignEach [.Subscript o ix tpos] X.env).map (·.2) = [assign (.Subscript o ix tpos) X.env] := by rfl) : WS X (.Assign [.Subscript o ix tpos] e pos) ds ((p, .dl l) :: m) E :=
  ws_store ho hi (we_view hd List.mem_cons_self h sc ⟨d, l, rfl, List.mem_cons_self, h0, hj, by rw [mset_head hpf]; exact q⟩) ha hs hw h1
/-! ### list(range(n)) -/
theorem ee_listRg {n : Int} {p q : Pos} (h : EE X a ds (I n)) (hn : 0 ≤ n ∧ n ≤ 1000000) (hm : X.mg "list" = none) (hm2 : X.mg "range" = none) (hg : Gl X "list" := by rfl) (hg2 : Gl X "range" := by rfl) (hc : X.calm = true := by rfl)
    (na : starEach [a] X.env = (false, eval a X.env) :: starEach [] X.env := by rfl) (na2 : starEach [.Call (.Name "range" q) [a] [] p] X.env = (false, eval (.Call (.Name "range" q) [a] [] p) X.env) :: starEach [] X.env := by rfl) {p2 p3 : Pos} :
    EE X (.Call (.Name "list" p2) [.Call (.Name "range" q) [a] [] p] [] p3) ds (Ls ((List.range n.toNat).map fun (i : Nat) => PyData.int (i : Int))) := fun m σ G H E w Q k => oE (pe_listRg hc hg hm (prg_1 hg2 hm2 (pE a) na) na2) (h m σ G H E w _ fun v d m1 G1 H1 g1 r1 ⟨e1, e2⟩ => by
  subst e1 e2
  cases ds_int r1
  refine ⟨n, rfl, .of_le (by decide) (by omega) (by decide) hn.1, fun p hp => ?_⟩
  have g2 := Gr.new (o := .lst (rgV 0 n)) g1.wd hp
  have e : rgV 0 n = ((List.range n.toNat).map fun (i : Nat) => (i : Int)).map V.int := by
    unfold rgV
    rw [Int.sub_zero, List.map_map]
    exact List.map_congr_left fun i _ => by show V.int (0 + (i : Int)) = V.int (i : Int); rw [Int.zero_add]
  have e2 : ((List.range n.toNat).map fun (i : Nat) => PyData.int (i : Int)) = ((List.range n.toNat).map fun (i : Nat) => (i : Int)).map PyData.int := by
    rw [List.map_map]
    rfl
  rw [e] at g2 ⊢
  rw [e2] at k
  exact k _ _ _ _ _ (g1.trans g2) (.py (.lst (SqL.of upd_same) (dpa_of_ints _))) ⟨rfl, rfl⟩)
/-! ### comprehensions that change what is owned -/
theorem we_lcI {j : Nat} {x : Str} {tpos : Pos} {scope : Scope} {P : SD → MS → Prop} (Iv : Nat → List PyData → MS → Prop) (own : List (Str × Nat)) (ho : own.map (·.2) = [j]) (hN : X.N.Nodup)
    (h : WI X (.Name x tpos) iter ds m fun xs m1 => xs.length ≤ 1000000 ∧ Iv 0 [] m1 ∧
      (∀ i y acc m', xs[i]? = some y → acc.length ≤ i → Iv i acc m' → AllBlk X scope fun Y => WE Y elt ((ds.set j none).set j (some y)) m' fun d m4 => ∃ d', d = .py d' ∧ Iv (i + 1) (acc ++ [d']) m4) ∧ ∀ acc m', acc.length ≤ xs.length → Iv xs.length acc m' → P (Ls acc) m')
    (wg : ∀ s H C cl fp d (ds : DE) m (Q : DE → MS → Prop), Q (ds.set j (some d)) m → WG (Blk X scope s H C cl fp) (.Name x tpos) [j] d ds m Q)
    (ok : BlkOk X.N X.env.scope scope own) (hc : X.calm = true := by rfl) (hs : ∀ x, foldedSetIterable iter X.env x = pure x := by intro _; rfl) : WE X (.ListComp elt [⟨.Name x tpos, iter, [], 0⟩] scope pos) ds m P :=
  we_lc own hN (fun σ G H E w R' q => h σ G H E w R' fun J xs m' G' H' g it ⟨h1, h2, h3, h4⟩ => q J xs m' G' H' g it ⟨h1, Iv, h2, fun i y acc m' hy hl iv => by
    rw [ho]
    refine fun s H C cl fp => wg _ _ _ _ _ _ _ _ _ fun s H C cl fp => wts_nil ?_
    rw [if_pos rfl]
    exact h3 i y acc m' hy hl iv, h4⟩) ok hc hs
theorem sd_ints {l : List Int} {i : Int} (h0 : 0 ≤ i) (h : i < l.length) : SubD X m (Ls (l.map .int)) (I i) (I (l.getD i.toNat 0)) := sd_lst (at_nn h0 (by
  have hi : i.toNat < l.length := by omega
  rw [List.getElem?_map, List.getElem?_eq_getElem hi]
  simp [List.getD, hi]))
/-! ### repr of small data -/
structure Rep (d : PyData) : Prop where
  dp : d.depth ≤ 50
  sh : d.showable = true
  nd : d.hasDict = false
  lv : d.leavesShort 13 = true
  bk : d.bulk ≤ 2 ^ 20
theorem ee_reprR {d : PyData} {p : Pos} (h : EE X e ds (.py d)) (hr : Rm 0 X.A) (r : Rep d) (hm : X.mg "repr" = none) (hg : Gl X "repr" := by rfl) (he : starEach (e :: []) X.env = (false, eval e X.env) :: starEach [] X.env := by rfl) (hpl : (backTo pos (starEach [] X.env)).any (·.1) = false := by rfl) :
    EE X (.Call (.Name "repr" p) [e] [] pos) ds (.py (.str d.shown)) := ee_repr h hr r.dp r.sh r.nd (PyData.shown_fits_bulk (B := 13) (by decide) (by decide) r.lv r.bk) hm hg he hpl
end
theorem log_small {i : Nat} (h : i < 2 ^ 60) : i.log2 < 1920 := by
  by_cases z : i = 0
  · subst z; decide
  · have := (Nat.log2_lt z).mpr h
    omega
theorem rep_int3 {a b c : Nat} (ha : a < 10 ^ 11) (hb : b < 10 ^ 11) (hc : c < 10 ^ 11) : Rep (.tuple [.int a, .int b, .int c]) := by
  have p : ∀ x : Nat, x < 10 ^ 11 → ((x : Int).natAbs.log2 < 1920) ∧ (PyData.shown (.int (x : Int))).length ≤ 13 := fun x hx => ⟨log_small (by omega), PyData.shown_int_le (by omega)⟩
  refine ⟨by simp [PyData.depth, PyData.depthAll], ?_, by simp [PyData.hasDict, PyData.hasDictAll], ?_, by simp [PyData.bulk, PyData.bulkAll]⟩
  · simp only [PyData.showable, PyData.showableAll, Bool.and_eq_true, decide_eq_true_eq, and_true]
    exact ⟨(p a ha).1, (p b hb).1, (p c hc).1⟩
  · simp only [PyData.leavesShort, PyData.leavesShortAll, Bool.and_eq_true, decide_eq_true_eq, and_true]
    exact ⟨(p a ha).2, (p b hb).2, (p c hc).2⟩
def SmallT (t : List Nat) : Prop := t.length ≤ 1000 ∧ ∀ c ∈ t, c < 16 ^ 8
theorem rep_w1 {t : List Nat} (h : SmallT t) : Rep (.tuple [tx t]) := by
  refine ⟨by simp [PyData.depth, PyData.depthAll], by simp [PyData.showable, PyData.showableAll], by simp [PyData.hasDict, PyData.hasDictAll], ?_, ?_⟩
  · simp only [PyData.leavesShort, PyData.leavesShortAll, Bool.and_true]
    simpa [List.all_eq_true] using h.2
  · have := h.1
    simp only [PyData.bulk, PyData.bulkAll, List.size_toArray]
    omega
theorem rep_w2 {t u : List Nat} (h : SmallT t) (hu : SmallT u) : Rep (.tuple [tx t, tx u]) := by
  refine ⟨by simp [PyData.depth, PyData.depthAll], by simp [PyData.showable, PyData.showableAll], by simp [PyData.hasDict, PyData.hasDictAll], ?_, ?_⟩
  · simp only [PyData.leavesShort, PyData.leavesShortAll, Bool.and_true, Bool.and_eq_true]
    exact ⟨by simpa [List.all_eq_true] using h.2, by simpa [List.all_eq_true] using hu.2⟩
  · have := h.1
    have := hu.1
    simp only [PyData.bulk, PyData.bulkAll, List.size_toArray]
    omega
theorem rep_w3 {t u : List Nat} {p : Nat} (h : SmallT t) (hu : SmallT u) (hp : p < 10 ^ 11) : Rep (.tuple [tx t, tx u, .int p]) := by
  refine ⟨by simp [PyData.depth, PyData.depthAll], ?_, by simp [PyData.hasDict, PyData.hasDictAll], ?_, ?_⟩
  · simp only [PyData.showable, PyData.showableAll, Bool.and_eq_true, decide_eq_true_eq, and_true, true_and]
    exact log_small (by omega)
  · simp only [PyData.leavesShort, PyData.leavesShortAll, Bool.and_true, Bool.and_eq_true, decide_eq_true_eq]
    exact ⟨by simpa [List.all_eq_true] using h.2, by simpa [List.all_eq_true] using hu.2, PyData.shown_int_le (by omega)⟩
  · have := h.1
    have := hu.1
    simp only [PyData.bulk, PyData.bulkAll, List.size_toArray]
    omega
theorem small_okT {t : List Nat} (h : OkT t) (hl : t.length ≤ 113) : SmallT t := ⟨by omega, fun c hc => by have := al_lt (h c hc); omega⟩
theorem rep_lo {ws : List Nat} (ho : Ok ws) (hl : ws.length = 256) : Rep (lo ws) := by
  have sE : SmallT nE := ⟨by decide, by decide⟩
  have sW : SmallT nW := ⟨by decide, by decide⟩
  have sM : SmallT nM := ⟨by decide, by decide⟩
  have sT : SmallT nT := ⟨by decide, by decide⟩
  rw [← po_lo ho hl]
  unfold po
  by_cases hE : ws = List.replicate 256 15
  · rw [if_pos hE]
    exact rep_w1 sE
  · rw [if_neg hE]
    have second : Rep (match (match ft ws with | some r => some r | none => fs ws) with | none => .tuple [tx nT] | some (t, p) => .tuple [tx nM, tx t, .int p]) := by
      rcases hf : ft ws with _ | ⟨t, p⟩
      · rcases hs : fs ws with _ | ⟨t, p⟩
        · exact rep_w1 sT
        · unfold fs at hs
          rcases hd : dec ws with _ | t1
          · rw [hd] at hs; cases hs
          · rw [hd] at hs
            dsimp only at hs
            rcases hq : unl ws (sealT t1) 226 30 with _ | ⟨q, _ | ⟨q2, r⟩⟩
            · rw [hq] at hs; cases hs
            · rw [hq] at hs
              dsimp only at hs
              split at hs
              · cases hs
              · cases hs
                have := (unl_mem hq).1.1
                exact rep_w3 sM (small_okT (dec_okT hd) (dec_len (by omega) hd)) (by omega)
            · rw [hq] at hs; cases hs
      · obtain ⟨a, b, c, _, hp, _, hw, _, _, _, ht⟩ := ft_some hf
        have hL := lifted_len ho hl p
        exact rep_w3 sM (small_okT (dec_okT ht) (dec_len (by omega) ht)) (by omega)
    rcases hd : dec ws with _ | t
    · dsimp only
      rw [if_neg Bool.false_ne_true]
      exact second
    · dsimp only
      by_cases hs : sealT t = ws
      · rw [if_pos (decide_eq_true hs)]
        exact rep_w2 sW (small_okT (dec_okT hd) (dec_len (by omega) hd))
      · rw [if_neg (by rw [decide_eq_true_eq]; exact hs)]
        exact second
end W9
namespace W9
open PySem PySem.Spec PyProof.Rows L2
/-! ### the drawing hand -/
abbrev Pt (p : Addr) (a b c : Int) : Addr × OV := (p, .dl [.int a, .int b, .int c])
def PB (b : Int) : Prop := 0 ≤ b ∧ b < 2305843009213693921
section
variable {X : Cx} {m : MS} {ds : DE} {e c a b tg elt iter : Expr} {es : List Expr} {pos : Pos}
theorem bd_mulB {i : Int} {b : Bool} : BinD X .Mult (I i) (I (if b = true then 1 else 0)) (I (i * (if b = true then 1 else 0))) := bd_mul (.inr (by cases b <;> decide))
theorem WE.drop {P : SD → MS → Prop} (h : WE X e ds m fun d m1 => ∃ q m2, m1 = q :: m2 ∧ P d m2) : WE X e ds m P := fun σ G H E w Q k => h σ G H E w Q fun v d m1 G1 H1 g r ⟨q, m2, e1, p⟩ => by
  subst e1
  obtain ⟨qa, qv⟩ := q
  have g2 := Gr.drop g.wd
  exact k v d m2 G1 H1 (g.trans g2) r p
end
theorem ca_allT {X : Cx} {m : MS} {n : Nat} (hc : X.calm = true := by rfl) : CaD X (.builtin "all") m [Ls (List.replicate n (PyData.bool true))] (B true) := by
  have z : CaD X (.builtin "all") m [Ls ((List.replicate n true).map .bool)] (B ((List.replicate n true).all id)) := ca_all hc
  rw [List.map_replicate] at z
  have e : (List.replicate n true).all id = true := by
    rw [List.all_eq_true]
    intro x hx
    rw [List.eq_of_mem_replicate hx]
    rfl
  rw [e] at z
  exact z
abbrev prs : List Int := [2147483647, 2147483629, 2147483587, 2147483579, 2147483563]
theorem prs_pos (c : Int) : 0 < prs.getD (c % 5).toNat 0 ∧ prs.getD (c % 5).toNat 0 < 2147483648 := by
  have h : ∀ i, i < 5 → 0 < prs.getD i 0 ∧ prs.getD i 0 < 2147483648 := by decide
  exact h _ (by omega)
theorem sq_le {k c : Int} (hk : 0 ≤ k ∧ k ≤ 1000000) (hc : 0 ≤ c ∧ c ≤ 200000) : 0 ≤ k * c * c ∧ k * c * c ≤ 40000000000000000 := by
  have h1 : 0 ≤ k * c := Int.mul_nonneg hk.1 hc.1
  have h2 : k * c ≤ 1000000 * 200000 := Int.mul_le_mul hk.2 hc.2 hc.1 (by decide)
  have h3 : k * c * c ≤ (1000000 * 200000) * 200000 := Int.mul_le_mul h2 hc.2 hc.1 (by decide)
  have h4 := Int.mul_nonneg h1 hc.1
  omega
abbrev sgn (c : Nat) : PyData := .str ⟨[c].toArray⟩
theorem hex_sgn {d : PyData} (h : d ∈ hexS.map sgn) : ∃ w, w < 16 ∧ d = .str ⟨([w].map dig).toArray⟩ := by
  have e : hexS.map sgn = (List.range 16).map fun w => PyData.str ⟨([w].map dig).toArray⟩ := rfl
  rw [e] at h
  obtain ⟨w, hw, rfl⟩ := List.mem_map.mp h
  exact ⟨w, List.mem_range.mp hw, rfl⟩
end W9
namespace W9
open PySem PySem.Spec PyProof.Rows L2
/-! ### of two unlike sealed pages each is greater than the other at two places at least -/
def dS (F : Nat → Int) : Nat → List Nat → List Nat → Int
  | i, x :: xs, y :: ys => ((y : Int) - x) * F i + dS F (i + 1) xs ys
  | _, _, _ => 0
theorem dS_sum (f : Nat → Nat) : ∀ (i : Nat) (xs ys : List Nat), xs.length = ys.length → Ok xs → Ok ys → ((sumW f i xs : Nat) : Int) - (sumW f i ys : Nat) = dS (fun j => (f j : Int)) i xs ys
  | i, [], [], _, _, _ => rfl
  | i, [], y :: ys, h, _, _ => by simp at h
  | i, x :: xs, [], h, _, _ => by simp at h
  | i, x :: xs, y :: ys, h, hx, hy => by
    have ih := dS_sum f (i + 1) xs ys (by simpa using h) hx.tail hy.tail
    have h1 := hx.head
    have h2 := hy.head
    have e1 : ((sumW f i (x :: xs) : Nat) : Int) = (15 - (x : Int)) * (f i : Int) + (sumW f (i + 1) xs : Nat) := by
      show (((15 - x) * f i + sumW f (i + 1) xs : Nat) : Int) = _
      rw [Int.natCast_add, Int.natCast_mul]
      have e : ((15 - x : Nat) : Int) = 15 - (x : Int) := by omega
      rw [e]
    have e2 : ((sumW f i (y :: ys) : Nat) : Int) = (15 - (y : Int)) * (f i : Int) + (sumW f (i + 1) ys : Nat) := by
      show (((15 - y) * f i + sumW f (i + 1) ys : Nat) : Int) = _
      rw [Int.natCast_add, Int.natCast_mul]
      have e : ((15 - y : Nat) : Int) = 15 - (y : Int) := by omega
      rw [e]
    rw [e1, e2]
    show _ = ((y : Int) - x) * (f i : Int) + dS (fun j => (f j : Int)) (i + 1) xs ys
    rw [← ih, Int.sub_mul, Int.sub_mul, Int.sub_mul]
    omega
theorem dS_lin (F G H : Nat → Int) (a b c : Int) : ∀ (i : Nat) (xs ys : List Nat), dS (fun j => a * F j + b * G j + c * H j) i xs ys = a * dS F i xs ys + b * dS G i xs ys + c * dS H i xs ys
  | _, [], _ => by show (0 : Int) = a * 0 + b * 0 + c * 0; omega
  | _, _ :: _, [] => by show (0 : Int) = a * 0 + b * 0 + c * 0; omega
  | i, x :: xs, y :: ys => by
    show ((y : Int) - x) * (a * F i + b * G i + c * H i) + dS _ (i + 1) xs ys = a * (((y : Int) - x) * F i + dS F (i + 1) xs ys) + b * (((y : Int) - x) * G i + dS G (i + 1) xs ys) + c * (((y : Int) - x) * H i + dS H (i + 1) xs ys)
    rw [dS_lin F G H a b c (i + 1) xs ys]
    generalize (y : Int) - x = d
    rw [Int.mul_add, Int.mul_add, Int.mul_add, Int.mul_add, Int.mul_add, Int.mul_left_comm d a, Int.mul_left_comm d b, Int.mul_left_comm d c]
    omega
theorem dS_zero (F : Nat → Int) : ∀ (i : Nat) (xs ys : List Nat), xs.length = ys.length → (∀ j, j < xs.length → 0 ≤ ((w0 ys j : Int) - w0 xs j) * F (i + j)) → 0 ≤ dS F i xs ys ∧ (dS F i xs ys = 0 → ∀ j, j < xs.length → ((w0 ys j : Int) - w0 xs j) * F (i + j) = 0)
  | i, [], ys, _, _ => ⟨Int.le_refl 0, fun _ j hj => absurd hj (Nat.not_lt_zero j)⟩
  | i, x :: xs, [], h, _ => by simp at h
  | i, x :: xs, y :: ys, h, hp => by
    have ih := dS_zero F (i + 1) xs ys (by simpa using h) fun j hj => by
      have := hp (j + 1) (by rw [List.length_cons]; omega)
      have e : i + 1 + j = i + (j + 1) := by omega
      rw [e]
      exact this
    have h0 : 0 ≤ ((y : Int) - x) * F i := hp 0 (by rw [List.length_cons]; omega)
    have e : dS F i (x :: xs) (y :: ys) = ((y : Int) - x) * F i + dS F (i + 1) xs ys := rfl
    refine ⟨by rw [e]; omega, fun hz j hj => ?_⟩
    rw [e] at hz
    cases j with
    | zero =>
      show ((y : Int) - x) * F i = 0
      omega
    | succ j =>
      have := ih.2 (by omega) j (by rw [List.length_cons] at hj; omega)
      have e : i + 1 + j = i + (j + 1) := by omega
      rw [e] at this
      exact this
theorem tw_gt {k n n' : Nat} (h : n < 16 ^ k) (h' : n' < 16 ^ k) (ne : n ≠ n') : ∃ j, j < 2 * k ∧ w0 (tw k n') j < w0 (tw k n) j := by
  have l1 := digs_length k n
  have l2 := digs_length k n'
  have hd : ∃ j, j < k ∧ w0 (digs k n) j ≠ w0 (digs k n') j := Classical.byContradiction fun z => ne (by
    have e : digs k n = digs k n' := ext_w0 (by rw [l1, l2]) fun j hj => Classical.byContradiction fun y => z ⟨j, by rw [l1] at hj; exact hj, y⟩
    have e2 := congrArg num e
    rw [num_digs, num_digs, Nat.mod_eq_of_lt h, Nat.mod_eq_of_lt h'] at e2
    exact e2)
  obtain ⟨j, hj, hne⟩ := hd
  have lo1 : ∀ m, w0 (tw k m) j = w0 (digs k m) j := fun m => w0_app1 (by rw [digs_length]; exact hj)
  have hi1 : ∀ m, w0 (tw k m) (k + j) = 15 - w0 (digs k m) j := fun m => by
    have e := w0_app2 (a := digs k m) (b := cmpl (digs k m)) (p := j)
    rw [digs_length] at e
    refine Eq.trans e (w0_of ?_)
    rw [List.getElem?_map, w0_get (by rw [digs_length]; exact hj)]
    rfl
  have b1 := w0_lt (digs_ok k n) j
  have b2 := w0_lt (digs_ok k n') j
  by_cases hlt : w0 (digs k n') j < w0 (digs k n) j
  · exact ⟨j, by omega, by rw [lo1, lo1]; exact hlt⟩
  · exact ⟨k + j, by omega, by rw [hi1, hi1]; omega⟩
theorem tail_w0 (a b c : Nat) : (∀ j, j < 6 → w0 (tailOf a b c) j = w0 (tw 3 a) j) ∧ (∀ j, j < 10 → w0 (tailOf a b c) (6 + j) = w0 (tw 5 b) j) ∧ ∀ j, j < 14 → w0 (tailOf a b c) (16 + j) = w0 (tw 7 c) j := by
  have l1 := tw_length 3 a
  have l2 := tw_length 5 b
  refine ⟨fun j hj => w0_app1 (by omega), fun j hj => ?_, fun j hj => ?_⟩
  · have e := w0_app2 (a := tw 3 a) (b := tw 5 b ++ tw 7 c) (p := j)
    rw [l1] at e
    exact Eq.trans e (w0_app1 (by omega))
  · have e := w0_app2 (a := tw 3 a) (b := tw 5 b ++ tw 7 c) (p := 10 + j)
    rw [l1] at e
    have e2 := w0_app2 (a := tw 5 b) (b := tw 7 c) (p := j)
    rw [l2] at e2
    have e3 : 16 + j = 2 * 3 + (10 + j) := by omega
    rw [e3]
    exact e.trans e2
theorem cellsOf_inj {t u : List Nat} (ht : OkT t) (hu : OkT u) (hl : t.length ≤ 113) (hl2 : u.length ≤ 113) (h : cellsOf t = cellsOf u) : t = u := by
  have e : ∀ v, v.length ≤ 113 → (cellsOf v).take 226 = cellsOf v := fun v hv => List.take_of_length_le (by rw [cellsOf_length hv]; exact Nat.le_refl 226)
  have d : ∀ v, OkT v → v.length ≤ 113 → dec (cellsOf v) = some v := fun v hv hn => dec_of ((isT_cells (cellsOf_ok v) (by rw [cellsOf_length hn]; exact Nat.le_refl 226) hv hn).mpr (e v hn).symm)
  have e1 := d t ht hl
  rw [h, d u hu hl2] at e1
  exact (Option.some.inj e1).symm
/-- THE CORE of k08 -/
theorem two_greater {t u : List Nat} (ht : OkT t) (hu : OkT u) (hl : t.length ≤ 113) (hl2 : u.length ≤ 113) (ne : t ≠ u) : ∃ p q, p < q ∧ q < 256 ∧ w0 (sealT u) p < w0 (sealT t) p ∧ w0 (sealT u) q < w0 (sealT t) q := by
  refine Classical.byContradiction fun no => ?_
  have one : ∀ p q, p < 256 → q < 256 → w0 (sealT u) p < w0 (sealT t) p → w0 (sealT u) q < w0 (sealT t) q → p = q := fun p q hp hq h1 h2 => by
    rcases Nat.lt_trichotomy p q with z | z | z
    · exact absurd ⟨p, q, z, hq, h1, h2⟩ no
    · exact z
    · exact absurd ⟨q, p, z, hp, h2, h1⟩ no
  have lx := cellsOf_length hl
  have ly := cellsOf_length hl2
  have ox := cellsOf_ok t
  have oy := cellsOf_ok u
  have hd : ∀ v, v.length ≤ 113 → ∀ i, i < 226 → w0 (sealT v) i = w0 (cellsOf v) i := fun v hv i hi => w0_app1 (by rw [cellsOf_length hv]; exact hi)
  have tl : ∀ v, v.length ≤ 113 → ∀ k, w0 (sealT v) (226 + k) = w0 (tailOf (s0 (cellsOf v)) (s1 (cellsOf v)) (s2 (cellsOf v))) k := fun v hv k => by
    have e := w0_app2 (a := cellsOf v) (b := tailOf (s0 (cellsOf v)) (s1 (cellsOf v)) (s2 (cellsOf v))) (p := k)
    rw [cellsOf_length hv] at e
    exact e
  have g0 : s0 (cellsOf t) ≠ s0 (cellsOf u) → ∃ j, j < 6 ∧ w0 (sealT u) (226 + j) < w0 (sealT t) (226 + j) := fun h => by
    obtain ⟨j, hj, hg⟩ := tw_gt (k := 3) (s0_lt _) (s0_lt _) h
    exact ⟨j, hj, by rw [tl u hl2, tl t hl, (tail_w0 _ _ _).1 j hj, (tail_w0 _ _ _).1 j hj]; exact hg⟩
  have g1 : s1 (cellsOf t) ≠ s1 (cellsOf u) → ∃ j, j < 10 ∧ w0 (sealT u) (226 + (6 + j)) < w0 (sealT t) (226 + (6 + j)) := fun h => by
    obtain ⟨j, hj, hg⟩ := tw_gt (k := 5) (s1_lt _) (s1_lt _) h
    exact ⟨j, hj, by rw [tl u hl2, tl t hl, (tail_w0 _ _ _).2.1 j hj, (tail_w0 _ _ _).2.1 j hj]; exact hg⟩
  have g2 : s2 (cellsOf t) ≠ s2 (cellsOf u) → ∃ j, j < 14 ∧ w0 (sealT u) (226 + (16 + j)) < w0 (sealT t) (226 + (16 + j)) := fun h => by
    obtain ⟨j, hj, hg⟩ := tw_gt (k := 7) (s2_lt _) (s2_lt _) h
    exact ⟨j, hj, by rw [tl u hl2, tl t hl, (tail_w0 _ _ _).2.2 j hj, (tail_w0 _ _ _).2.2 j hj]; exact hg⟩
  have full : ∀ v, v.length ≤ 113 → ∀ f, sumW f 0 ((cellsOf v).take 226) = sumW f 0 (cellsOf v) := fun v hv f => by rw [List.take_of_length_le (by rw [cellsOf_length hv]; exact Nat.le_refl 226)]
  have d0 := dS_sum f0 0 (cellsOf t) (cellsOf u) (by rw [lx, ly]) ox oy
  have d1 := dS_sum f1 0 (cellsOf t) (cellsOf u) (by rw [lx, ly]) ox oy
  have d2 := dS_sum f2 0 (cellsOf t) (cellsOf u) (by rw [lx, ly]) ox oy
  rw [← full t hl f0, ← full u hl2 f0] at d0
  rw [← full t hl f1, ← full u hl2 f1] at d1
  rw [← full t hl f2, ← full u hl2 f2] at d2
  have xy : cellsOf t ≠ cellsOf u := fun z => ne (cellsOf_inj ht hu hl hl2 z)
  by_cases hh : ∃ p, p < 226 ∧ w0 (cellsOf u) p < w0 (cellsOf t) p
  · obtain ⟨p, hp, hg⟩ := hh
    have hgp : w0 (sealT u) p < w0 (sealT t) p := by rw [hd u hl2 p hp, hd t hl p hp]; exact hg
    have e0 : s0 (cellsOf t) = s0 (cellsOf u) := Classical.byContradiction fun z => by
      obtain ⟨j, hj, h2⟩ := g0 z
      have := one p _ (by omega) (by omega) hgp h2
      omega
    have e1 : s1 (cellsOf t) = s1 (cellsOf u) := Classical.byContradiction fun z => by
      obtain ⟨j, hj, h2⟩ := g1 z
      have := one p _ (by omega) (by omega) hgp h2
      omega
    have e2 : s2 (cellsOf t) = s2 (cellsOf u) := Classical.byContradiction fun z => by
      obtain ⟨j, hj, h2⟩ := g2 z
      have := one p _ (by omega) (by omega) hgp h2
      omega
    have z0 : dS (fun j => ((f0 j : Nat) : Int)) 0 (cellsOf t) (cellsOf u) = 0 := by rw [← d0]; show ((s0 (cellsOf t) : Nat) : Int) - (s0 (cellsOf u) : Nat) = 0; omega
    have z1 : dS (fun j => ((f1 j : Nat) : Int)) 0 (cellsOf t) (cellsOf u) = 0 := by rw [← d1]; show ((s1 (cellsOf t) : Nat) : Int) - (s1 (cellsOf u) : Nat) = 0; omega
    have z2 : dS (fun j => ((f2 j : Nat) : Int)) 0 (cellsOf t) (cellsOf u) = 0 := by rw [← d2]; show ((s2 (cellsOf t) : Nat) : Int) - (s2 (cellsOf u) : Nat) = 0; omega
    have lin := dS_lin (fun j => ((f2 j : Nat) : Int)) (fun j => ((f1 j : Nat) : Int)) (fun j => ((f0 j : Nat) : Int)) 1 (-(2 * ((p : Int) + 1))) (((p : Int) + 1) * ((p : Int) + 1)) 0 (cellsOf t) (cellsOf u)
    rw [z0, z1, z2, Int.mul_zero, Int.mul_zero, Int.mul_zero] at lin
    have wsq : ∀ j : Nat, 1 * ((f2 j : Nat) : Int) + -(2 * ((p : Int) + 1)) * ((f1 j : Nat) : Int) + ((p : Int) + 1) * ((p : Int) + 1) * ((f0 j : Nat) : Int) = ((j : Int) - p) * ((j : Int) - p) := fun j => by
      show 1 * (((j + 1) * (j + 1) : Nat) : Int) + -(2 * ((p : Int) + 1)) * ((j + 1 : Nat) : Int) + ((p : Int) + 1) * ((p : Int) + 1) * ((1 : Nat) : Int) = _
      rw [Int.natCast_mul, Int.natCast_add, Int.natCast_one]
      have m1 : ((j : Int) + 1) * ((j : Int) + 1) = (j : Int) * j + 2 * j + 1 := by rw [Int.add_mul, Int.mul_add, Int.one_mul, Int.mul_one]; omega
      have m2 : ((p : Int) + 1) * ((p : Int) + 1) = (p : Int) * p + 2 * p + 1 := by rw [Int.add_mul, Int.mul_add, Int.one_mul, Int.mul_one]; omega
      have m3 : -(2 * ((p : Int) + 1)) * ((j : Int) + 1) = -(2 * ((p : Int) * j)) - 2 * p - 2 * j - 2 := by
        have m5 : (p : Int) * ((j : Int) + 1) = (p : Int) * j + p := by rw [Int.mul_add, Int.mul_one]
        rw [Int.neg_mul, Int.mul_assoc, Int.add_mul, Int.one_mul, m5]; omega
      have m4 : ((j : Int) - p) * ((j : Int) - p) = (j : Int) * j - 2 * ((p : Int) * j) + (p : Int) * p := by
        rw [Int.sub_mul, Int.mul_sub, Int.mul_sub, Int.mul_comm (j : Int) p]; omega
      rw [m1, m2, m3, m4]
      omega
    have key := dS_zero (fun j => 1 * ((f2 j : Nat) : Int) + -(2 * ((p : Int) + 1)) * ((f1 j : Nat) : Int) + ((p : Int) + 1) * ((p : Int) + 1) * ((f0 j : Nat) : Int)) 0 (cellsOf t) (cellsOf u) (by rw [lx, ly]) fun j hj => by
      rw [Nat.zero_add, wsq]
      by_cases e : j = p
      · subst e
        rw [Int.sub_self, Int.mul_zero, Int.mul_zero]
        exact Int.le_refl 0
      · have h1 : ¬ w0 (cellsOf u) j < w0 (cellsOf t) j := fun z => e (one j p (by omega) (by omega) (by rw [hd u hl2 j (by omega), hd t hl j (by omega)]; exact z) hgp)
        refine Int.mul_nonneg (by omega) ?_
        rcases Int.le_total 0 ((j : Int) - p) with z | z
        · exact Int.mul_nonneg z z
        · have := Int.mul_nonneg (a := -((j : Int) - p)) (b := -((j : Int) - p)) (by omega) (by omega)
          rwa [Int.neg_mul_neg] at this
    have terms := key.2 (by rw [lin]; rfl)
    have same : ∀ j, j < 226 → j ≠ p → w0 (cellsOf u) j = w0 (cellsOf t) j := fun j hj e => by
      have h1 := terms j (by rw [lx]; exact hj)
      rw [Nat.zero_add, wsq] at h1
      rcases Int.mul_eq_zero.mp h1 with z | z
      · omega
      · rcases Int.mul_eq_zero.mp z with z | z <;> omega
    have last := dS_zero (fun j => -((f0 j : Nat) : Int)) 0 (cellsOf t) (cellsOf u) (by rw [lx, ly]) fun j hj => by
      show 0 ≤ ((w0 (cellsOf u) j : Int) - w0 (cellsOf t) j) * -(((1 : Nat) : Int))
      by_cases e : j = p
      · subst e; omega
      · rw [same j (by omega) e]; omega
    have linm := dS_lin (fun j => ((f0 j : Nat) : Int)) (fun j => ((f0 j : Nat) : Int)) (fun j => ((f0 j : Nat) : Int)) (-1) 0 0 0 (cellsOf t) (cellsOf u)
    have fe : (fun j : Nat => -1 * ((f0 j : Nat) : Int) + 0 * ((f0 j : Nat) : Int) + 0 * ((f0 j : Nat) : Int)) = fun j => -((f0 j : Nat) : Int) := by
      funext j
      omega
    rw [fe, z0] at linm
    have h9 := last.2 (by rw [linm]; rfl) p (by rw [lx]; exact hp)
    have h9 : ((w0 (cellsOf u) p : Int) - w0 (cellsOf t) p) * -(((1 : Nat) : Int)) = 0 := h9
    omega
  · have le : ∀ p, p < 226 → w0 (cellsOf t) p ≤ w0 (cellsOf u) p := fun p hp => Classical.byContradiction fun z => hh ⟨p, hp, by omega⟩
    have pos : ∀ f : Nat → Nat, (∀ j, 0 < f j) → dS (fun j => ((f j : Nat) : Int)) 0 (cellsOf t) (cellsOf u) ≠ 0 := fun f hf z => xy (ext_w0 (by rw [lx, ly]) fun j hj => by
      have key := dS_zero (fun j => ((f j : Nat) : Int)) 0 (cellsOf t) (cellsOf u) (by rw [lx, ly]) fun j hj => Int.mul_nonneg (by have := le j (by omega); omega) (by omega)
      have h1 := key.2 z j hj
      rw [Nat.zero_add] at h1
      rcases Int.mul_eq_zero.mp h1 with y | y
      · omega
      · have := hf j
        omega)
    have n0 : s0 (cellsOf t) ≠ s0 (cellsOf u) := fun z => pos f0 (fun _ => Nat.one_pos) (by rw [← d0]; show ((s0 (cellsOf t) : Nat) : Int) - (s0 (cellsOf u) : Nat) = 0; omega)
    have n1 : s1 (cellsOf t) ≠ s1 (cellsOf u) := fun z => pos f1 (fun _ => Nat.succ_pos _) (by rw [← d1]; show ((s1 (cellsOf t) : Nat) : Int) - (s1 (cellsOf u) : Nat) = 0; omega)
    obtain ⟨j, hj, h1⟩ := g0 n0
    obtain ⟨k, hk, h2⟩ := g1 n1
    have := one _ _ (by omega) (by omega) h1 h2
    omega
end W9
namespace W9
open PySem PySem.Spec PyProof.Rows L2
/-! ### cells that lie below a sealed page at one place at most tell no other text -/
def Low1 (ws pg : List Nat) : Prop := ∀ q r, q < 256 → r < 256 → w0 ws q < w0 pg q → w0 ws r < w0 pg r → q = r
section
variable {ws t : List Nat} (ho : Ok ws) (hl : ws.length = 256) (ht : OkT t) (htl : t.length ≤ 113) (h1 : Low1 ws (sealT t))
include ht htl h1 in
theorem ge_told {u : List Nat} (hu : OkT u) (hul : u.length ≤ 113) (ge : ∀ q, q < 256 → w0 ws q ≤ w0 (sealT u) q) : u = t := Classical.byContradiction fun ne => by
  obtain ⟨p, q, hpq, hq, g1, g2⟩ := two_greater ht hu htl hul fun z => ne z.symm
  have a1 := ge p (by omega)
  have a2 := ge q hq
  have := h1 p q (by omega) hq (by omega) (by omega)
  omega
include ho hl ht htl h1 in
theorem lo_told : lo ws = .tuple [tx nE] ∨ lo ws = .tuple [tx nT] ∨ lo ws = .tuple [tx nW, tx t] ∨ ∃ p : Nat, lo ws = .tuple [tx nM, tx t, .int p] := by
  rw [← po_lo ho hl]
  unfold po
  by_cases hE : ws = List.replicate 256 15
  · rw [if_pos hE]; exact .inl rfl
  · rw [if_neg hE]
    have second : ∀ d, d = (match (match ft ws with | some r => some r | none => fs ws) with | none => PyData.tuple [tx nT] | some (t, p) => .tuple [tx nM, tx t, .int p]) → d = .tuple [tx nE] ∨ d = .tuple [tx nT] ∨ d = .tuple [tx nW, tx t] ∨ ∃ p : Nat, d = .tuple [tx nM, tx t, .int p] := by
      intro d hd
      rcases hf : ft ws with _ | ⟨u, p⟩
      · rcases hs : fs ws with _ | ⟨u, p⟩
        · rw [hf, hs] at hd
          exact .inr (.inl hd)
        · rw [hf, hs] at hd
          rcases hdc : dec ws with _ | t1
          · unfold fs at hs
            rw [hdc] at hs
            cases hs
          · rw [fs_fal ho hl hdc] at hs
            cases hfal : fal ws (sealT t1) with
            | none => rw [hfal] at hs; cases hs
            | some p' =>
              rw [hfal] at hs
              have hs : (t1, p') = (u, p) := Option.some.inj hs
              obtain ⟨e1, e2⟩ := Prod.mk.inj hs
              rw [← e1, ← e2] at hd
              obtain ⟨hq, hlt⟩ := fal_some hfal
              have hu := (unl_mem hq).2
              have e := ge_told ht htl h1 (dec_okT hdc) (dec_len (by omega) hdc) fun q hq => by
                by_cases z : w0 ws q = w0 (sealT t1) q
                · omega
                · have e := hu q (by omega) (by omega) z
                  rw [e]
                  omega
              rw [e] at hd
              exact .inr (.inr (.inr ⟨_, hd⟩))
      · rw [hf] at hd
        obtain ⟨a, b, c, _, hp, hd1, hw, _, _, _, hdc⟩ := ft_some hf
        have hL := lifted_len ho hl p
        have hs := ft_page ho hl hf
        have e := ge_told ht htl h1 (dec_okT hdc) (dec_len (by omega) hdc) fun q hq => by
          rw [hs]
          unfold lifted
          by_cases z : q = p
          · subst z
            rw [w0_set_same (by omega)]
            omega
          · rw [w0_set_ne fun y => z y.symm]
            exact Nat.le_refl _
        rw [e] at hd
        exact .inr (.inr (.inr ⟨_, hd⟩))
    rcases hdc : dec ws with _ | t1
    · dsimp only
      rw [if_neg Bool.false_ne_true]
      exact second _ rfl
    · dsimp only
      by_cases hs : sealT t1 = ws
      · rw [if_pos (decide_eq_true hs)]
        have e := ge_told ht htl h1 (dec_okT hdc) (dec_len (by omega) hdc) fun q _ => by rw [hs]; exact Nat.le_refl _
        rw [e]
        exact .inr (.inr (.inl rfl))
      · rw [if_neg (by rw [decide_eq_true_eq]; exact hs)]
        exact second _ rfl
end
/-! ### raised, fallen -/
def Up (a b : List Nat) : Prop := ∀ q, q < 256 → w0 a q ≤ w0 b q
theorem Up.low {a b pg : List Nat} (h : Up a b) (l : Low1 a pg) : Low1 b pg := fun q r hq hr g1 g2 => l q r hq hr (by have := h q hq; omega) (by have := h r hr; omega)
theorem Low1.refl (a : List Nat) : Low1 a a := fun q r _ _ g _ => by omega
/-- one cell otherwise, behind what is raised -/
theorem Low1.set {a pg : List Nat} {p v : Nat} (h : Up pg a) : Low1 (a.set p v) pg := fun q r hq hr g1 g2 => by
  have e : ∀ q, q < 256 → w0 (a.set p v) q < w0 pg q → q = p := fun q hq g => Classical.byContradiction fun z => by
    rw [w0_set_ne fun y => z y.symm] at g
    have := h q hq
    omega
  rw [e q hq g1, e r hr g2]
theorem Up.refl (a : List Nat) : Up a a := fun _ _ => Nat.le_refl _
theorem Up.trans {a b c : List Nat} (h : Up a b) (h2 : Up b c) : Up a c := fun q hq => Nat.le_trans (h q hq) (h2 q hq)
theorem Up.set {a b : List Nat} {p v : Nat} (hl : p < b.length) (h : Up a b) (hv : w0 a p ≤ v) : Up a (b.set p v) := fun q hq => by
  by_cases z : q = p
  · subst z; rw [w0_set_same hl]; exact hv
  · rw [w0_set_ne fun y => z y.symm]; exact h q hq
end W9
namespace W9
open PySem PySem.Spec PyProof.Rows L2
/-! ### zip of two texts of ascii signs -/
structure ZA (z TI TO i1 i2 : Addr) : Prop where
  nz : TI ≠ z ∧ TO ≠ z ∧ i1 ≠ z ∧ i2 ≠ z
  nO : TO ≠ i1 ∧ TO ≠ i2 ∧ TI ≠ TO
  n1 : i1 ≠ i2
theorem it_keep {h h' : Heap} {it : Addr} {x : Str} {t : Tok} {i : Nat} (st : h.IsStrIter it "str_ascii_iterator" x t i) (k : ∀ o, h.get? it = some o → h'.get? it = some o) : h'.IsStrIter it "str_ascii_iterator" x t i := by
  obtain ⟨o, ho, r⟩ := st
  exact ⟨o, k o ho, r⟩
section
variable {prog : Program} {w : World} {A : Around} {E : Value → Shared → Prop} {s : Shared}
theorem zs_item {z TI TO i1 i2 : Addr} {x y : Str} {t u : Tok} {k : Nat} {a b : Value} {Q : Value → Shared → Prop} (hh : A.handled = none) (D : ZA z TI TO i1 i2)
    (hz : IsZip s.heap z TI TO .none) (hTI : IsPair s.heap TI (.ref i1) (.ref i2)) (hTO : IsPair s.heap TO a b)
    (h1 : s.heap.IsStrIter i1 "str_ascii_iterator" x t k) (h2 : s.heap.IsStrIter i2 "str_ascii_iterator" y u k) (hx : k < x.cps.size) (hy : k < y.cps.size)
    (hQ : ∀ (h' : Heap) (tk : Tok) (v1 v2 : Value), (∃ c r, x.cps[k]? = some c ∧ v1 = .str ⟨#[c]⟩ r) → (∃ c r, y.cps[k]? = some c ∧ v2 = .str ⟨#[c]⟩ r) → IsZip h' z TI TO (rawInt s.heap.objs.size) → IsPair h' TO v1 v2 →
      h'.IsStrIter i1 "str_ascii_iterator" x t (k + 1) → h'.IsStrIter i2 "str_ascii_iterator" y u (k + 1) → IsPair h' s.heap.objs.size v1 v2 → h'.objs.size = s.heap.objs.size + 1 →
      (∀ c o, c ≠ z → c ≠ TO → c ≠ i1 → c ≠ i2 → s.heap.get? c = some o → h'.get? c = some o) → Q (.ref s.heap.objs.size) { s with heap := h', toks := tk }) :
    wpAny (model prog w) A (Builtin.«zip.__next__» ⟨[.ref z], []⟩) (fun fin s' => ∃ v, fin = .done (.ret v) ∧ Q v s') E s := by
  obtain ⟨⟨zTI, zTO, zi1, zi2⟩, ⟨O1, O2, IO⟩, n12⟩ := D
  show wpAny _ _ (field (.ref z) 2 >>= _) _ _ _
  refine wpAny_bind (wpAny_field hz rfl (x := .bool false) rfl ?_)
  show wpAny _ _ (field (.ref z) 3 >>= _) _ _ _
  refine wpAny_bind (wpAny_field hz rfl (x := .ref TI) rfl (wpAny_bind (wpAny_seqItems hTI rfl ?_)))
  show wpAny _ _ (Builtin.SmallTypes.ownedTupleIsFree (.ref z) >>= _) _ _ _
  refine wpAny_bind ?_
  unfold Builtin.SmallTypes.ownedTupleIsFree
  refine wpAny_bind (wpAny_field hz rfl (x := .none) rfl (wpAny_pure ?_))
  simp only [if_true]
  refine wpAny_bind (wpAny_rule (wpAny_bind (wpAny_field hz rfl (x := .ref TO) rfl (wpAny_bind (wpAny_setField_rec hz (by simp) fun ha za sa => ?_)))))
  replace za : IsZip ha z TI TO .ellipsis := za
  refine wpAny_bind ?_
  simp only [List.zipIdx_cons, List.zipIdx_nil, List.forIn_cons, List.forIn_nil]
  -- the first text's sign
  refine wpAny_bind (wpAny_bind (wpAny_onRaise ?_))
  show wpAny _ _ (Builtin.SmallTypes.nextOf (.ref i1) >>= _) _ _ _
  refine wpAny_bind ((Draws.strAscii (by exact hh) i1 x t).item k _ _ _ hx (it_keep h1 fun o e => sa.extBut _ _ zi1 e) fun v1 hb tb p1 st1 sb => wpAny_pure ?_)
  have Tb : IsPair hb TO a b := sb.extBut _ _ O1 (sa.extBut _ _ zTO hTO)
  refine wpAny_bind (wpAny_seqItems Tb rfl (wpAny_bind (wpAny_updateSeq_pair Tb fun hc Tc sc => ?_)))
  replace Tc : IsPair hc TO v1 b := Tc
  refine wpAny_bind (wpAny_letGo (wpAny_pure ?_))
  -- the second text's sign
  refine wpAny_bind (wpAny_bind (wpAny_onRaise ?_))
  show wpAny _ _ (Builtin.SmallTypes.nextOf (.ref i2) >>= _) _ _ _
  refine wpAny_bind ((Draws.strAscii (by exact hh) i2 y u).item k _ _ _ hy (it_keep h2 fun o e => sc.extBut _ _ (Ne.symm O2) (sb.extBut _ _ (Ne.symm n12) (sa.extBut _ _ zi2 e))) fun v2 hd td p2 st2 sd => wpAny_pure ?_)
  have Td : IsPair hd TO v1 b := sd.extBut _ _ O2 Tc
  refine wpAny_bind (wpAny_seqItems Td rfl (wpAny_bind (wpAny_updateSeq_pair Td fun he Te se => ?_)))
  replace Te : IsPair he TO v1 v2 := Te
  refine wpAny_bind (wpAny_letGo (wpAny_pure (wpAny_pure ?_)))
  refine wpAny_bind (wpAny_seqItems Te rfl (wpAny_bind (wpAny_newTuple ?_)))
  have size : he.objs.size = s.heap.objs.size := by rw [se.1, sd.1, sc.1, sb.1, sa.1]
  have ze : IsZip he z TI TO .ellipsis := se.extBut _ _ (Ne.symm zTO) (sd.extBut _ _ (Ne.symm zi2) (sc.extBut _ _ (Ne.symm zTO) (sb.extBut _ _ (Ne.symm zi1) za)))
  have keep : ∀ c o, c ≠ z → c ≠ TO → c ≠ i1 → c ≠ i2 → s.heap.get? c = some o → he.get? c = some o := fun c o c1 c2 c3 c4 e =>
    se.extBut _ _ c2 (sd.extBut _ _ c4 (sc.extBut _ _ c2 (sb.extBut _ _ c3 (sa.extBut _ _ c1 e))))
  have I1 : he.IsStrIter i1 "str_ascii_iterator" x t (k + 1) := it_keep st1 fun o e => se.extBut _ _ (Ne.symm O1) (sd.extBut _ _ n12 (sc.extBut _ _ (Ne.symm O1) e))
  have I2 : he.IsStrIter i2 "str_ascii_iterator" y u (k + 1) := it_keep st2 fun o e => se.extBut _ _ (Ne.symm O2) e
  have zl : z < he.objs.size := Heap.lt_size ze
  show wpAny _ _ (Builtin.SmallTypes.ownedTupleHandOut (.ref z) (.ref he.objs.size) >>= _) _ _ _
  refine wpAny_bind ?_
  unfold Builtin.SmallTypes.ownedTupleHandOut
  have zf : IsZip (he.push { cls := .type "tuple", data := .seq #[v1, v2] }) z TI TO .ellipsis := Heap.get?_push_of_some _ ze
  refine wpAny_bind (wpAny_setField_rec zf (by simp) fun hg zg sg => ?_)
  replace zg : IsZip hg z TI TO (rawInt he.objs.size) := zg
  refine wpAny_setField_rec zg (by simp) fun hk zk sk => ?_
  replace zk : IsZip hk z TI TO (rawInt he.objs.size) := zk
  have up : ∀ c o, c ≠ z → he.get? c = some o → hk.get? c = some o := fun c o c1 e => sk.extBut _ _ c1 (sg.extBut _ _ c1 (Heap.get?_push_of_some _ e))
  have new : IsPair hk he.objs.size v1 v2 := sk.extBut _ _ (Nat.ne_of_gt zl) (sg.extBut _ _ (Nat.ne_of_gt zl) (Heap.get?_push_size _ rfl))
  have size2 : hk.objs.size = he.objs.size + 1 := by rw [sk.1, sg.1, Heap.size_push]
  rw [size] at zk new size2
  refine wpAny_pure ⟨_, rfl, ?_⟩
  show Q (.ref he.objs.size) _
  rw [size]
  exact hQ hk _ v1 v2 p1 p2 zk (up _ _ zTO Te) (it_keep I1 fun o e => up _ o zi1 e) (it_keep I2 fun o e => up _ o zi2 e) new size2 fun c o c1 c2 c3 c4 e => up c o c1 (keep c o c1 c2 c3 c4 e)
theorem zs_stop {z TI TO i1 i2 : Addr} {x : Str} {t : Tok} {a b : Value} {Q : Fin → Shared → Prop} (hh : A.handled = none) (D : ZA z TI TO i1 i2)
    (hz : IsZip s.heap z TI TO .none) (hTI : IsPair s.heap TI (.ref i1) (.ref i2)) (hTO : IsPair s.heap TO a b) (h1 : s.heap.IsStrIter i1 "str_ascii_iterator" x t x.cps.size)
    (hE : ∀ h' e, (∀ c o, c ≠ z → c ≠ TO → c ≠ i1 → c ≠ i2 → s.heap.get? c = some o → h'.get? c = some o) → (∃ o, h'.get? e = some o ∧ o.cls = .type "StopIteration") → E (.ref e) { s with heap := h' }) :
    wpAny (model prog w) A (Builtin.«zip.__next__» ⟨[.ref z], []⟩) Q E s := by
  obtain ⟨⟨zTI, zTO, zi1, zi2⟩, ⟨O1, O2, IO⟩, n12⟩ := D
  show wpAny _ _ (field (.ref z) 2 >>= _) _ _ _
  refine wpAny_bind (wpAny_field hz rfl (x := .bool false) rfl ?_)
  show wpAny _ _ (field (.ref z) 3 >>= _) _ _ _
  refine wpAny_bind (wpAny_field hz rfl (x := .ref TI) rfl (wpAny_bind (wpAny_seqItems hTI rfl ?_)))
  show wpAny _ _ (Builtin.SmallTypes.ownedTupleIsFree (.ref z) >>= _) _ _ _
  refine wpAny_bind ?_
  unfold Builtin.SmallTypes.ownedTupleIsFree
  refine wpAny_bind (wpAny_field hz rfl (x := .none) rfl (wpAny_pure ?_))
  simp only [if_true]
  refine wpAny_bind (wpAny_rule (wpAny_bind (wpAny_field hz rfl (x := .ref TO) rfl (wpAny_bind (wpAny_setField_rec hz (by simp) fun ha za sa => ?_)))))
  replace za : IsZip ha z TI TO .ellipsis := za
  refine wpAny_bind ?_
  simp only [List.zipIdx_cons, List.zipIdx_nil, List.forIn_cons, List.forIn_nil]
  refine wpAny_bind (wpAny_bind (wpAny_onRaise ?_))
  show wpAny _ _ (Builtin.SmallTypes.nextOf (.ref i1) >>= _) _ _ _
  refine wpAny_bind ((Draws.strAscii (by exact hh) i1 x t).done _ _ _ (it_keep h1 fun o e => sa.extBut _ _ zi1 e) fun hb e sb oe => ?_)
  obtain ⟨o, ho, hc⟩ := oe
  have zb : IsZip hb z TI TO .ellipsis := sb _ _ (Ne.symm zi1) za
  have ez : e ≠ z := fun q => by
    subst q
    rw [zb] at ho
    cases ho
    simp at hc
  exact wpAny_setField_rec zb (by simp) fun hd _ sd => hE hd e (fun c o c1 _ c3 _ q => sd.extBut _ _ c1 (sb _ _ c3 (sa.extBut _ _ c1 q))) ⟨o, sd.extBut _ _ ez ho, hc⟩
theorem zs_next {z TI TO i1 i2 : Addr} {x y : Str} {t u : Tok} {k : Nat} {a b : Value} {Q : Option Value → Shared → Prop} (hh : A.handled = none) (D : ZA z TI TO i1 i2)
    (hz : IsZip s.heap z TI TO .none) (hTI : IsPair s.heap TI (.ref i1) (.ref i2)) (hTO : IsPair s.heap TO a b)
    (h1 : s.heap.IsStrIter i1 "str_ascii_iterator" x t k) (h2 : s.heap.IsStrIter i2 "str_ascii_iterator" y u k) (hx : k < x.cps.size) (hy : k < y.cps.size)
    (hQ : ∀ (h' : Heap) (tk : Tok) (v1 v2 : Value), (∃ c r, x.cps[k]? = some c ∧ v1 = .str ⟨#[c]⟩ r) → (∃ c r, y.cps[k]? = some c ∧ v2 = .str ⟨#[c]⟩ r) → IsZip h' z TI TO (rawInt s.heap.objs.size) → IsPair h' TO v1 v2 →
      h'.IsStrIter i1 "str_ascii_iterator" x t (k + 1) → h'.IsStrIter i2 "str_ascii_iterator" y u (k + 1) → IsPair h' s.heap.objs.size v1 v2 → h'.objs.size = s.heap.objs.size + 1 →
      (∀ c o, c ≠ z → c ≠ TO → c ≠ i1 → c ≠ i2 → s.heap.get? c = some o → h'.get? c = some o) → Q (some (.ref s.heap.objs.size)) { s with heap := h', toks := tk }) :
    wpAny (model prog w) A (pyNext (.ref z)) Q E s := by
  have hT : s.TypeIs (.ref z) "zip" := ⟨_, hz, rfl⟩
  unfold pyNext
  exact wpAny_bind (wpAny_attempt (wpAny_callSpecial?_slot (name := Str.ofString "__next__") hT F.slot_zip_next
    (wpAny_call_entry F.slot_zip_next hT F.entry_zip_next (zs_item hh D hz hTI hTO h1 h2 hx hy fun h' tk v1 v2 a1 a2 a3 a4 a5 a6 a7 a8 a9 => wpAny_pure (hQ h' tk v1 v2 a1 a2 a3 a4 a5 a6 a7 a8 a9)) (F.args_zip_next_1 _))))
theorem zs_end {z TI TO i1 i2 : Addr} {x : Str} {t : Tok} {a b : Value} {Q : Option Value → Shared → Prop} (hh : A.handled = none) (D : ZA z TI TO i1 i2)
    (hz : IsZip s.heap z TI TO .none) (hTI : IsPair s.heap TI (.ref i1) (.ref i2)) (hTO : IsPair s.heap TO a b) (h1 : s.heap.IsStrIter i1 "str_ascii_iterator" x t x.cps.size)
    (hQ : ∀ h', (∀ c o, c ≠ z → c ≠ TO → c ≠ i1 → c ≠ i2 → s.heap.get? c = some o → h'.get? c = some o) → Q none { s with heap := h' }) : wpAny (model prog w) A (pyNext (.ref z)) Q E s := by
  have hT : s.TypeIs (.ref z) "zip" := ⟨_, hz, rfl⟩
  unfold pyNext
  refine wpAny_bind (wpAny_attempt (wpAny_callSpecial?_slot (name := Str.ofString "__next__") hT F.slot_zip_next
    (wpAny_call_entry F.slot_zip_next hT F.entry_zip_next (zs_stop hh D hz hTI hTO h1 fun h' e hk he => ?_) (F.args_zip_next_1 _))))
  obtain ⟨o, ho, hc⟩ := he
  exact wpAny_bind (wpAny_isInstance (T := "StopIteration") (b := true) ⟨o, ho, hc⟩ isSubtype_stop (wpAny_pure (hQ _ hk)))
end
/-! #### zip(x, y) itself -/
abbrev sIt (x : Str) (t : Tok) : Obj := { cls := .type (strIterType x), data := .fields #[.str x t, .int 0 0] }
abbrev zp2 (h : Heap) (x y : Str) (t u : Tok) : Heap := (h.push (sIt x t)).push (sIt y u)
abbrev zp4 (h : Heap) (x y : Str) (t u : Tok) : Heap := ((zp2 h x y t u).push { cls := .type "tuple", data := .seq #[.ref h.objs.size, .ref (h.push (sIt x t)).objs.size] }).push { cls := .type "tuple", data := .seq #[.none, .none] }
abbrev zp5 (h : Heap) (x y : Str) (t u : Tok) : Heap := (zp4 h x y t u).push { cls := .type "zip", data := .fields #[.none, .bool false, .bool false, .ref (zp2 h x y t u).objs.size, .ref ((zp2 h x y t u).push { cls := .type "tuple", data := .seq #[.ref h.objs.size, .ref (h.push (sIt x t)).objs.size] }).objs.size] }
theorem zs_meets (x y : Str) (t u : Tok) :
    Meets (Builtin.«zip.__new__» ⟨[.type "zip", .str x t, .str y u], []⟩) (fun _ R s => R (.ok (.ret (.ref (zp4 s.heap x y t u).objs.size))) { s with heap := zp5 s.heap x y t u }) :=
  .of_wp fun prog w A R s h => by
    obtain ⟨hp, g, d, tk, os⟩ := s
    have hsub := sub_zip
    wp_walk using wpAny_pyIter_strU, wpAny_pyIter_strU
    exact ⟨_, rfl, h⟩
end W9
namespace W9
open PySem PySem.Spec PyProof.Rows L2
section
variable {prog : Program} {w : World} {A : Around} {E : Value → Shared → Prop} {s : Shared}
theorem zs_call {x y : Str} {t u : Tok} {Q : Value → Shared → Prop}
    (h : ∀ h', IsZip h' (s.heap.objs.size + 4) (s.heap.objs.size + 2) (s.heap.objs.size + 3) .none → IsPair h' (s.heap.objs.size + 2) (.ref s.heap.objs.size) (.ref (s.heap.objs.size + 1)) →
      IsPair h' (s.heap.objs.size + 3) .none .none → h'.IsStrIter s.heap.objs.size (strIterType x) x t 0 → h'.IsStrIter (s.heap.objs.size + 1) (strIterType y) y u 0 →
      (∀ c o, s.heap.get? c = some o → h'.get? c = some o) → Q (.ref (s.heap.objs.size + 4)) { s with heap := h' }) :
    wpAny (model prog w) A (call (.type "zip") [.str x t, .str y u]) Q E s := by
  refine callType_new F.called_zip (by decide) (F.typeCall_zip_2 _ _) (F.newCall_zip_2 _ _) (fun obj => F.args_object_init_3 obj _ _) F.entry_zip_new (zs_meets x y t u) ?_
  have a1 : (s.heap.push (sIt x t)).objs.size = s.heap.objs.size + 1 := Heap.size_push ..
  have a2 : (zp2 s.heap x y t u).objs.size = s.heap.objs.size + 2 := by rw [Heap.size_push, a1]
  have a3 : ((zp2 s.heap x y t u).push { cls := .type "tuple", data := .seq #[.ref s.heap.objs.size, .ref (s.heap.push (sIt x t)).objs.size] }).objs.size = s.heap.objs.size + 3 := by rw [Heap.size_push, a2]
  have a4 : (zp4 s.heap x y t u).objs.size = s.heap.objs.size + 4 := by rw [Heap.size_push, a3]
  have up : ∀ (g : Heap) (ob : Obj) {c : Addr} {o : Obj}, g.get? c = some o → (g.push ob).get? c = some o := fun g ob {c o} e => Heap.get?_push_of_some _ e
  have b5 : (zp5 s.heap x y t u).get? (zp4 s.heap x y t u).objs.size = some _ := Heap.get?_push_size _ rfl
  have b4 : (zp5 s.heap x y t u).get? ((zp2 s.heap x y t u).push { cls := .type "tuple", data := .seq #[.ref s.heap.objs.size, .ref (s.heap.push (sIt x t)).objs.size] }).objs.size = some _ := up _ _ (Heap.get?_push_size _ rfl)
  have b3 : (zp5 s.heap x y t u).get? (zp2 s.heap x y t u).objs.size = some _ := up _ _ (up _ _ (Heap.get?_push_size _ rfl))
  have b2 : (zp5 s.heap x y t u).get? (s.heap.push (sIt x t)).objs.size = some _ := up _ _ (up _ _ (up _ _ (Heap.get?_push_size _ rfl)))
  have b1 : (zp5 s.heap x y t u).get? s.heap.objs.size = some _ := up _ _ (up _ _ (up _ _ (up _ _ (Heap.get?_push_size _ rfl))))
  show _ ∧ _
  rw [a2, a3, a4] at b5
  rw [a1, a2] at b3
  rw [a3] at b4
  rw [a1] at b2
  rw [a4]
  exact ⟨⟨_, b5, rfl⟩, h _ b5 b3 b4 ⟨_, b1, rfl, rfl⟩ ⟨_, b2, rfl, rfl⟩ fun c o q => up _ _ (up _ _ (up _ _ (up _ _ (up _ _ q))))⟩
end
theorem za_nat (n : Nat) : (n + 2 ≠ n + 4 ∧ n + 3 ≠ n + 4 ∧ n ≠ n + 4 ∧ n + 1 ≠ n + 4) ∧ (n + 3 ≠ n ∧ n + 3 ≠ n + 1 ∧ n + 2 ≠ n + 3) ∧ n ≠ n + 1 := by omega
theorem za_new (n : Nat) : ZA (n + 4) (n + 2) (n + 3) n (n + 1) := ⟨(za_nat n).1, (za_nat n).2.1, (za_nat n).2.2⟩
def Itzs (x y : Str) : It := ⟨fun i _ => i < x.cps.size ∧ i < y.cps.size, fun i H v H' => ∃ T c d, v = .ref T ∧ H T = none ∧ H' = upd H T (.tup [.str ⟨#[c]⟩, .str ⟨#[d]⟩]) ∧ x.cps[i]? = some c ∧ y.cps[i]? = some d, fun i _ => i = x.cps.size⟩
theorem turn_zs {P : Program} {w : World} {K : PySem.W.Frag} {elts : List Expr} {kk : Nat} {tpos : Pos} {z TI TO i1 i2 : Addr} (D : ZA z TI TO i1 i2) (x y : Str) (t u : Tok) :
    Turn P w K (.Tuple elts kk tpos) (Itzs x y) [z, TI, TO, i1, i2] z (fun i h => IsZip h z TI TO .none ∧ IsPair h TI (.ref i1) (.ref i2) ∧ (∃ a b, IsPair h TO a b) ∧ h.IsStrIter i1 "str_ascii_iterator" x t i ∧ h.IsStrIter i2 "str_ascii_iterator" y u i) where
  mem := by simp
  obj := fun i h st c hc => by
    obtain ⟨hz, hTI, ⟨a, b, hTO⟩, ⟨o1, e1, _, d1⟩, ⟨o2, e2, _, d2⟩⟩ := st
    rcases (show c = z ∨ c = TI ∨ c = TO ∨ c = i1 ∨ c = i2 by simpa using hc) with q | q | q | q | q
    · subst q; exact ⟨_, hz, fun v q => nomatch q⟩
    · subst q; exact ⟨_, hTI, fun v q => nomatch q⟩
    · subst q; exact ⟨_, hTO, fun v q => nomatch q⟩
    · subst q; exact ⟨o1, e1, fun v q => by rw [d1] at q; cases q⟩
    · subst q; exact ⟨o2, e2, fun v q => by rw [d2] at q; cases q⟩
  keep := fun i h h' st k => by
    obtain ⟨hz, hTI, ⟨a, b, hTO⟩, h1, h2⟩ := st
    exact ⟨k z (by simp) _ hz, k TI (by simp) _ hTI, ⟨a, b, k TO (by simp) _ hTO⟩, it_keep h1 fun o q => k i1 (by simp) o q, it_keep h2 fun o q => k i2 (by simp) o q⟩
  item := by
    intro X hP hw hK hc i pins s σ H E J hf st hlt
    subst hP hw hK
    obtain ⟨hz, hTI, ⟨a, b, hTO⟩, h1, h2⟩ := st
    have zl : z < s.heap.objs.size := Heap.lt_size hz
    refine zs_next (J.ok.hd hc) D hz hTI hTO h1 h2 hlt.1 hlt.2 fun h' tk v1 v2 p1 p2 z' TO' h1' h2' hT hsz hk => ?_
    obtain ⟨c1, r1, g1, rfl⟩ := p1
    obtain ⟨c2, r2, g2, rfl⟩ := p2
    refine ⟨_, rfl, wpAny_letOwnedTupleGo_zip (s := { s with heap := h', toks := tk }) z' fun h'' z'' sb => ?_⟩
    have new : ObjOk X.prog X.w (upd H s.heap.objs.size (.tup [.str ⟨#[c1]⟩, .str ⟨#[c2]⟩])) h'' s.heap.objs.size (.tup [.str ⟨#[c1]⟩, .str ⟨#[c2]⟩]) :=
      ⟨by show 2 ≤ sizeLine; decide, [.str ⟨#[c1]⟩ r1, .str ⟨#[c2]⟩ r2], .cons ⟨_, rfl⟩ (.cons ⟨_, rfl⟩ .nil), ⟨_, (sb.2 _ (Nat.ne_of_gt zl)).trans hT, rfl, _, rfl⟩⟩
    have J1 := J.turnedNew (ch := [z, TI, TO, i1, i2]) (t' := tk) (fun c o hb q => (sb.2 c (fun q' => hb (by simp [q']))).trans (hk c o (fun q' => hb (by simp [q'])) (fun q' => hb (by simp [q'])) (fun q' => hb (by simp [q'])) (fun q' => hb (by simp [q'])) q)) hf (Nat.le_refl _) new
    refine ⟨.ref s.heap.objs.size, _, J1, rfl, ⟨_, c1, c2, rfl, J.hok.fresh (Nat.le_refl _), rfl, g1, g2⟩, ⟨z'', ?_, ⟨.str ⟨#[c1]⟩ r1, .str ⟨#[c2]⟩ r2, ?_⟩, ?_, ?_⟩, fun c hcm => ?_⟩
    · exact (sb.2 _ D.nz.1).trans (hk _ _ D.nz.1 D.nO.2.2 (fun q => by rw [q] at hTI; obtain ⟨o, e, e2, _⟩ := h1; rw [hTI] at e; cases e; simp at e2) (fun q => by rw [q] at hTI; obtain ⟨o, e, e2, _⟩ := h2; rw [hTI] at e; cases e; simp at e2) hTI)
    · exact (sb.2 _ D.nz.2.1).trans TO'
    · exact it_keep h1' fun o q => (sb.2 _ D.nz.2.2.1).trans q
    · exact it_keep h2' fun o q => (sb.2 _ D.nz.2.2.2).trans q
    · have hl : c < s.heap.objs.size := by
        rcases (show c = z ∨ c = TI ∨ c = TO ∨ c = i1 ∨ c = i2 by simpa using hcm) with q | q | q | q | q
        · rw [q]; exact zl
        · rw [q]; exact Heap.lt_size hTI
        · rw [q]; exact Heap.lt_size hTO
        · rw [q]; obtain ⟨_, e1, _⟩ := h1; exact Heap.lt_size e1
        · rw [q]; obtain ⟨_, e2, _⟩ := h2; exact Heap.lt_size e2
      rw [upd_ne (Nat.ne_of_lt hl)]
      exact (hf c hcm).1
  done := by
    intro X hP hw hK hc i pins s σ H E J hf st hstop
    subst hP hw hK
    obtain ⟨hz, hTI, ⟨a, b, hTO⟩, h1, h2⟩ := st
    have hstop : i = x.cps.size := hstop
    subst hstop
    exact zs_end (J.ok.hd hc) D hz hTI hTO h1 fun h' hk => ⟨rfl, J.turnedL (t' := s.toks) (ch := [z, TI, TO, i1, i2]) (fun c o hb q =>
      hk c o (fun q' => hb (by simp [q'])) (fun q' => hb (by simp [q'])) (fun q' => hb (by simp [q'])) (fun q' => hb (by simp [q'])) q) hf⟩
  self := fun A i s Q E st h => wpAny_pyIter_zip st.1 h
def iZipS (ta : TA) : TI := fun σ H R => ta σ H fun vs H1 => ∃ x y : Str, vs = [.str x, .str y] ∧ x.cps.all (· < 128) = true ∧ y.cps.all (· < 128) = true ∧ R (Itzs x y) H1
theorem pi_zipS {X : Cx} {e e2 : Expr} {ta : TA} {p pos tpos : Pos} {elts : List Expr} {kk : Nat} (hg : Gl X "zip") (hm : X.mg "zip" = none) (ha : PA X [e, e2] ta)
    (hs : starEach [e, e2] X.env = (false, eval e X.env) :: starEach [e2] X.env := by rfl) (hpl : (backTo pos (starEach [e2] X.env)).any (·.1) = false := by rfl) :
    PI X (.Tuple elts kk tpos) (.Call (.Name "zip" p) [e, e2] [] pos) (iZipS ta) := ⟨fun pins s σ H R J h => by
  refine Call_ (ld_blt J hg hm PyProof.Rows.boot_zip (PyProof.Rows.callWith_type1 (thn (ha.run pos pins s σ H _ J h) fun us s1 ⟨vs, H1, J1, r1, x, y, ex, hx, hy, q⟩ => ?_) hs hpl))
  subst ex
  cases r1 with
  | cons r rr =>
    cases rr with
    | cons r' rr =>
      cases rr
      obtain ⟨t, rfl⟩ := r
      obtain ⟨u, rfl⟩ := r'
      refine zs_call fun h' hz hTI hTO h1 h2 hk => wpAny_pyIter_zip hz ?_
      have tx : strIterType x = "str_ascii_iterator" := by unfold strIterType; rw [if_pos hx]
      have ty : strIterType y = "str_ascii_iterator" := by unfold strIterType; rw [if_pos hy]
      rw [tx] at h1
      rw [ty] at h2
      refine ⟨s1.heap.objs.size + 4, [s1.heap.objs.size + 4, s1.heap.objs.size + 2, s1.heap.objs.size + 3, s1.heap.objs.size, s1.heap.objs.size + 1], _, _, H1, rfl, J1.kept (t' := s1.toks) hk, turn_zs (za_new s1.heap.objs.size) x y t u, ⟨hz, hTI, ⟨_, _, hTO⟩, h1, h2⟩, fun c hcm => ?_, q⟩
      have hle : s1.heap.objs.size ≤ c := by
        rcases (show c = s1.heap.objs.size + 4 ∨ c = s1.heap.objs.size + 2 ∨ c = s1.heap.objs.size + 3 ∨ c = s1.heap.objs.size ∨ c = s1.heap.objs.size + 1 by simpa using hcm) with q | q | q | q | q <;> (rw [q]; first | exact Nat.le_add_right _ _ | exact Nat.le_refl _)
      exact J1.fpOk hle (J1.hok.fresh hle)⟩
section
variable {X : Cx} {ds : DE} {e e2 : Expr} {pos : Pos}
/-- zip of two texts as long as each other -/
theorem ei_zipS {l k : List Nat} {p tpos : Pos} {elts : List Expr} {kk : Nat} (h : EE X e ds (S l)) (h2 : EE X e2 ds (S k)) (hlen : l.length = k.length) (ha : l.all (· < 128) = true) (hb : k.all (· < 128) = true) (hm : X.mg "zip" = none) (hg : Gl X "zip" := by rfl)
    (hs : starEach [e, e2] X.env = (false, eval e X.env) :: starEach [e2] X.env := by rfl) (hpl : (backTo pos (starEach [e2] X.env)).any (·.1) = false := by rfl) (hs2 : starEach [e2] X.env = (false, eval e2 X.env) :: starEach [] X.env := by rfl) :
    EI X (.Tuple elts kk tpos) (.Call (.Name "zip" p) [e, e2] [] pos) ds ((List.zip l k).map fun (q : Nat × Nat) => Tp [sgn q.1, sgn q.2]) := fun m σ G H E w R' q => oI (pi_zipS hg hm (pa_cons (pE e) (pa_cons (pE e2) pa_nil hs2) hs) hs hpl) (h m σ G H E w _ fun v d m1 G1 H1 g1 r1 ⟨e1, e2⟩ => by
  subst e1 e2
  refine h2 m1 σ G1 H1 (E.mono g1.g) g1.wd _ fun v2 d m2 G2 H2 g2 r2 ⟨e1, e2⟩ => ?_
  subst e1 e2
  cases ds_str r1
  cases ds_str r2
  have lz : (List.zip l k).length = l.length := by rw [List.length_zip]; omega
  refine ⟨_, _, rfl, by simpa using ha, by simpa using hb, q (Itzs ⟨l.toArray⟩ ⟨k.toArray⟩) _ _ _ _ (g1.trans g2) ⟨fun i H e hi => ?_, fun H e => ?_, fun i m' G' H' x H2 e w' hi y => ?_⟩ ⟨rfl, rfl⟩⟩
  · rw [List.length_map, lz] at hi
    show i < l.toArray.size ∧ i < k.toArray.size
    simp only [List.size_toArray]
    omega
  · show ((List.zip l k).map fun (q : Nat × Nat) => Tp [sgn q.1, sgn q.2]).length = l.toArray.size
    rw [List.length_map, lz, List.size_toArray]
  · obtain ⟨T, c, d, rfl, nT, rfl, hc, hd⟩ := y
    have hc : l[i]? = some c := by simpa using hc
    have hd : k[i]? = some d := by simpa using hd
    have g3 := Gr.new (o := .tup [.str ⟨#[c]⟩, .str ⟨#[d]⟩]) w' nT
    refine ⟨_, Tp [sgn c, sgn d], g3, ?_, .py (.tup (SqT.of upd_same) (.cons (.str _) (.cons (.str _) .nil)))⟩
    rw [List.getElem?_map, List.getElem?_zip_eq_some (z := (c, d)) |>.mpr ⟨hc, hd⟩]
    rfl)
end
end W9
namespace W9
open PySem PySem.Spec PyProof.Rows L2
section
variable {X : Cx} {m : MS} {ds : DE} {e c a b tg elt iter : Expr} {es : List Expr} {pos : Pos}
/-- x in a tuple of data -/
theorem op_inTd (hu : X.A.units + 65 < cLine) : OpR X (compareOp .In) (fun x y H Q => ∃ d ds, Dp X.K H x d ∧ Dp X.K H y (.tuple ds) ∧ SeqAt.shaped d = true ∧ SeqAt.shaped (.tuple ds) = true ∧ Q (.bl (ds.any fun z => PyData.eqv z d)) H) := fun pins s σ H x y v u Q J rx ry ⟨d, ds, hd, he, sd, se, q⟩ => by
  obtain ⟨as, r1⟩ := Dp.reads J d x v hd rx
  obtain ⟨bs, r2⟩ := Dp.reads J (.tuple ds) y u he ry
  exact SeqAt.in_tuple_reads r2 r1 (SeqAt.canLay_of_shaped se) (SeqAt.canLay_of_shaped sd) (room_in_shaped sd hu) ⟨.bl _, H, J, rfl, q⟩
theorem cd_inT (hr : Rm 0 X.A) {d : PyData} {l : List PyData} (sd : SeqAt.shaped d = true) (se : SeqAt.shaped (.tuple l) = true) : CmpD X .In (.py d) (Tp l) (l.any fun z => PyData.eqv z d) := ⟨_, op_inTd (by have := hr.r.un; omega), fun m G H v u w r1 r2 Q q => by
  cases r1 with
  | py r1 => cases r2 with
    | py r2 => exact ⟨d, l, dp_mono w.w r1, dp_mono w.w r2, sd, se, q _ _ _ (.refl w) (.py (.bl _))⟩⟩
/-- min([x, y]) -/
theorem ca_minL2 (hc : X.calm = true) {x y : Int} : CaD X (.builtin "min") m [Ls [.int x, .int y]] (I (if y < x then y else x)) := ca_one (cr_min hc) fun G H v w r Q q => by
  obtain ⟨a, xs, rfl, h1, h2⟩ := ds_lst r
  have e : xs = [x, y].map V.int := dpa_ints (ns := [x, y]) h2
  rw [e] at h1
  refine ⟨a, [x, y], rfl, ex_l w.w h1, by simp, fun z hz hmin => ?_⟩
  have a1 := hmin x (by simp)
  have a2 := hmin y (by simp)
  have hz : z = x ∨ z = y := by simpa using hz
  have e : z = if y < x then y else x := by
    split <;> omega
  rw [e]
  exact q _ _ _ (.refl w) (.py (.int _))
/-- list(text), owned -/
theorem we_listSO {l : List Nat} {x : Str} {p : Pos} {P : SD → MS → Prop} (h : EE X e ds (S l)) (hz : l.length ≤ 1000000) (k : ∀ p, p ∉ ad m → P (.raw (.ref p)) ((p, .dl (l.map sgn)) :: m))
    (hm : X.mg x = none) (hv : bootBuiltins x = some (.type "list")) (hc : X.calm = true := by rfl) (hg : Gl X x := by rfl) (hn : x ≠ "__name__" := by decide) (hdb : (x == ("__debug__" : Str)) = false := by decide)
    (he : starEach (e :: []) X.env = (false, eval e X.env) :: starEach [] X.env := by rfl) (hpl : (backTo pos (starEach [] X.env)).any (·.1) = false := by rfl) : WE X (.Call (.Name x p) [e] [] pos) ds m P := fun σ G H E w Q q =>
  oE (pe_callTy (call_list_txt hc) hg hm hv (pA [e]) hn hdb he hpl) ((ea_cons h ea_nil he : EA X [e] ds _) m σ G H E w _ fun vs xs m1 G1 H1 g1 r1 ⟨e1, e2⟩ => by
    subst e1 e2
    cases r1 with
    | cons r1 r2 =>
      cases r2
      cases ds_str r1
      refine ⟨l, rfl, hz, fun p hp => ?_⟩
      have g2 := Gr.made (o := .lst (l.map fun c => V.str ⟨#[c]⟩)) (v := .dl (l.map sgn)) g1.wd hp ⟨_, rfl, dpa_signs l⟩
      exact q _ _ _ _ _ (g1.trans g2) (.raw _) (k p (List.nodup_cons.mp g2.wd.nd).1))
/-- text[::-1] -/
theorem rev_pick (l : List Nat) : ((Builtin.Str.strSliceIndices none none (-1) l.length).filterMap (l.toArray[·]?)) = l.reverse := by
  rw [PyProof.Rows.picked_rev, PyProof.Rows.filterMap_get _ _ (fun i hi => by
    obtain ⟨k, hk, rfl⟩ := List.mem_map.mp hi
    have := List.mem_range.mp hk
    rw [List.size_toArray]
    omega)]
  refine List.ext_getElem? fun i => ?_
  rw [List.map_map, List.getElem?_map]
  by_cases hi : i < l.length
  · rw [List.getElem?_range hi, List.getElem?_reverse hi]
    show some (l.toArray.getD (l.length - 1 - i) 0) = _
    have h2 : l.length - 1 - i < l.length := by omega
    rw [List.getElem?_eq_getElem h2]
    simp [Array.getD, h2]
  · rw [List.getElem?_eq_none (by rw [List.length_range]; omega), List.getElem?_eq_none (by rw [List.length_reverse]; omega)]
    rfl
def tRevS (te : TE) : TE := fun σ H Q => te σ H fun x H1 => ∃ l : List Nat, x = .str ⟨l.toArray⟩ ∧ l.length ≤ 1000000 ∧ Q (.str ⟨l.reverse.toArray⟩) H1
theorem pe_revS {te : TE} {k : Nat} {p1 p2 p3 : Pos} (he : PE X e te) : PE X (.Subscript e (.Slice none none (some (.UnaryOp .USub (.Constant (.int 1) k p1) p2)) p3) pos) (tRevS te) := by
  refine ⟨fun pins s σ H Q J h => Subscript_ (thn (he.run pins s σ H _ J h) fun v s1 ⟨x, H1, J1, r1, l, ex, hz, q⟩ => ?_)⟩
  subst ex
  obtain ⟨t, rfl⟩ := r1
  have hst : PO X (some (.UnaryOp .USub (.Constant (.int 1) k p1) p2)) (tPart (tUn (rU fun i => .int (-i)) (tC (.int 1)))) := po_some (pe_un un_neg pe_int)
  refine wpAny_Slice (thn (po_none.run pins s1 σ H1 (fun o H2 => o = none ∧ H2 = H1) J1 ⟨rfl, rfl⟩) fun vl s2 ⟨lo, H2, J2, pl, el, e2⟩ => ?_)
  subst el e2
  refine thn (po_none.run pins s2 σ H2 (fun o H3 => o = none ∧ H3 = H2) J2 ⟨rfl, rfl⟩) fun vu s3 ⟨up, H3, J3, pu, eu, e3⟩ => ?_
  subst eu e3
  refine thn (hst.run pins s3 σ H3 (fun o H4 => o = some (-1) ∧ H4 = H3) J3 ⟨1, rfl, -1, rfl, rfl, rfl⟩) fun vs s4 ⟨o, H4, J4, pst, eo, e4⟩ => ?_
  subst eo e4
  have J5 : Inv X pins σ H4 { s4 with heap := s4.heap.push { cls := .type "slice", data := .fields #[vl, vu, vs] } } := J4.kept (t' := s4.toks) fun b ob q => Heap.get?_push_of_some _ q
  obtain ⟨l1, rfl, hl1⟩ := IsPart.raw pl
  obtain ⟨u1, rfl, hu1⟩ := IsPart.raw pu
  obtain ⟨st1, rfl, hs1⟩ := IsPart.raw pst
  cases l1 with
  | some q => cases hl1
  | none => cases u1 with
    | some q => cases hu1
    | none => cases st1 with
      | none => cases hs1
      | some q0 =>
        obtain ⟨i0, w0_⟩ := q0
        have hi : i0 = -1 := Option.some.inj hs1
        subst hi
        show wpAny (model X.prog X.w) X.A (subscriptTail e (.Slice none none (some (.UnaryOp .USub (.Constant (.int 1) k p1) p2)) p3) (.str ⟨l.toArray⟩ t) (.ref s4.heap.objs.size)) (EP X pins σ Q) X.xe { s4 with heap := s4.heap.push { cls := .type "slice", data := .fields #[partValue none, partValue none, partValue (some (-1, w0_))] } }
        refine tail_any (ops := [.str ⟨l.toArray⟩ t, .ref s4.heap.objs.size]) (typeIs_str _ _ _) (F.slot_str_getitem.lookup) ?_ (by with_unfolding_all rfl)
        refine wpAny_getItem_str_slice (l := none) (u := none) (st := some (-1, w0_)) ⟨_, Heap.get?_push_size _ rfl, rfl, rfl⟩ rfl ?_
        have hn : ¬ (((-1 : Int) == 1 && (Builtin.Str.strSliceIndices none none (-1) (⟨l.toArray⟩ : Str).length).length == (⟨l.toArray⟩ : Str).length) = true) := by simp
        show Made.post (if ((-1 : Int) == 1 && (Builtin.Str.strSliceIndices none none (-1) (⟨l.toArray⟩ : Str).length).length == (⟨l.toArray⟩ : Str).length) = true then Made.val (.str ⟨l.toArray⟩ t)
          else Made.str ⟨((Builtin.Str.strSliceIndices none none (-1) (⟨l.toArray⟩ : Str).length).filterMap (l.toArray[·]?)).toArray⟩) (EP X pins σ Q) _
        rw [if_neg hn, str_len, rev_pick]
        exact ⟨by rw [str_len, List.length_reverse]; exact line_of hz, .str _, H4, J5.tok _, ⟨_, rfl⟩, q⟩
theorem ee_revS {ds : DE} {l : List Nat} {k : Nat} {p1 p2 p3 : Pos} (h : EE X e ds (S l)) (hz : l.length ≤ 1000000) : EE X (.Subscript e (.Slice none none (some (.UnaryOp .USub (.Constant (.int 1) k p1) p2)) p3) pos) ds (S l.reverse) := fun m σ G H E w Q q =>
  oE (pe_revS (pE e)) (h m σ G H E w _ fun v d m1 G1 H1 g1 r1 ⟨e1, e2⟩ => by
    subst e1 e2
    cases ds_str r1
    exact ⟨l, rfl, hz, q _ _ _ _ _ g1 (.py (.str _)) ⟨rfl, rfl⟩⟩)
end
end W9
namespace W9
open PySem PySem.Spec PyProof.Rows L2
section
variable {X : Cx} {m : MS} {ds : DE} {e c a b tg elt iter : Expr} {es : List Expr} {pos : Pos}
theorem ee_neg {i : Int} (h : EE X a ds (I i)) : EE X (.UnaryOp .USub a pos) ds (I (-i)) := fun m σ G H E w Q q => oE (pe_un un_neg (pE a)) (h m σ G H E w _ fun v d m1 G1 H1 g1 r1 ⟨e1, e2⟩ => by
  subst e1 e2
  cases ds_int r1
  exact ⟨i, rfl, q _ _ _ _ _ g1 (.py (.int _)) ⟨rfl, rfl⟩⟩)
abbrev cl (us : List Nat) : List PyData := (us.map dig).map sgn
theorem cl_len (us : List Nat) : (cl us).length = us.length := by rw [List.length_map, List.length_map]
theorem cl_set (us : List Nat) (p v : Nat) : (cl us).set p (.str ⟨([v].map dig).toArray⟩) = cl (us.set p v) := by
  show (List.map sgn (us.map dig)).set p (sgn (dig v)) = List.map sgn ((us.set p v).map dig)
  rw [List.map_set, List.map_set]
theorem sd_cl {us : List Nat} {i : Int} (h0 : 0 ≤ i) (h : i < us.length) : SubD X m (Ls (cl us)) (I i) (C [w0 us i.toNat]) := sd_lst (d := sgn (dig (w0 us i.toNat))) (at_nn h0 (by
  rw [List.getElem?_map, List.getElem?_map, w0_get (by omega)]
  rfl))
theorem md_joinCl {us : List Nat} (hz : us.length ≤ 1000000) : MtD X "str" "str.join" m (S []) [Ls (cl us)] (C us) := md_joinS (by rw [List.length_map]; exact hz)
/-- [elt for x, y in l if t] -/
theorem ee_lctf {α : Type} {j1 j2 : Nat} {x1 x2 : Str} {p1 p2 tpos : Pos} {kk : Nat} {scope : Scope} (l : List α) (g1 g2 : α → PyData) (p : α → Bool) (h : α → PyData) (own : List (Str × Nat)) (ho : own.map (·.2) = [j1, j2]) (hN : X.N.Nodup)
    (hi : EI X (.Tuple [.Name x1 p1, .Name x2 p2] kk tpos) iter ds (l.map fun a => Tp [g1 a, g2 a])) (hl : l.length ≤ 1000000)
    (test : ∀ a ∈ l, AllBlk X scope fun Y => ET Y c ((((ds.set j2 none).set j1 none).set j1 (some (.py (g1 a)))).set j2 (some (.py (g2 a)))) (p a))
    (turn : ∀ a ∈ l, p a = true → AllBlk X scope fun Y => EE Y elt ((((ds.set j2 none).set j1 none).set j1 (some (.py (g1 a)))).set j2 (some (.py (g2 a)))) (.py (h a)))
    (wg : ∀ s H C cl fp d1 d2 (ds : DE) m (Q : DE → MS → Prop), Q ((ds.set j1 (some (.py d1))).set j2 (some (.py d2))) m → WG (Blk X scope s H C cl fp) (.Tuple [.Name x1 p1, .Name x2 p2] kk tpos) [j1, j2] (Tp [d1, d2]) ds m Q)
    (ok : BlkOk X.N X.env.scope scope own) (hc : X.calm = true := by rfl) (hs : ∀ x, foldedSetIterable iter X.env x = pure x := by intro _; rfl) : EE X (.ListComp elt [⟨.Tuple [.Name x1 p1, .Name x2 p2] kk tpos, iter, [c], 0⟩] scope pos) ds (Ls ((l.filter p).map h)) := fun m =>
  we_lc own hN (hi.to ⟨by rw [List.length_map]; exact hl, fun i acc m' => acc = ((l.take i).filter p).map h ∧ m' = m, ⟨rfl, rfl⟩, fun i y acc m' hy _ ⟨e1, e2⟩ => by
    subst e1 e2
    rw [ho]
    obtain ⟨a, q, rfl⟩ := map_get hy
    have hm := List.mem_of_getElem? q
    refine fun s H C cl fp => wg _ _ _ _ _ _ _ _ _ _ fun s H C cl fp => wts_one ((test a hm s H C cl fp).to ?_)
    cases z : p a with
    | true =>
      rw [if_pos rfl]
      refine fun s H C cl fp => (turn a hm z s H C cl fp).to ⟨_, rfl, ?_, rfl⟩
      rw [List.take_add_one, q, List.filter_append, List.map_append]
      show _ = _ ++ ([a].filter p).map h
      rw [List.filter_cons_of_pos z]
      rfl
    | false =>
      rw [if_neg Bool.false_ne_true]
      refine ⟨?_, rfl⟩
      rw [List.take_add_one, q, List.filter_append, List.map_append]
      show _ = _ ++ ([a].filter p).map h
      rw [List.filter_cons_of_neg (by rw [z]; exact Bool.false_ne_true)]
      simp, fun acc m' _ ⟨e1, e2⟩ => by
    rw [List.length_map, List.take_length] at e1
    exact ⟨by rw [e1], e2⟩⟩) ok hc hs
end
/-! ### pieces of the table of cells -/
theorem hexS_eq : hexS = (List.range 16).map dig := rfl
theorem hex_from {k : Nat} (hk : k < 16) {d : PyData} (h : d ∈ (cut hexS (some (k : Int)) none).map sgn) : ∃ v, k ≤ v ∧ v < 16 ∧ d = .str ⟨([v].map dig).toArray⟩ := by
  rw [cut_n0, hexS_eq, ← List.map_drop] at h
  obtain ⟨x, hx, rfl⟩ := List.mem_map.mp h
  obtain ⟨v, hv, rfl⟩ := List.mem_map.mp hx
  obtain ⟨i, hi⟩ := List.mem_iff_getElem?.mp hv
  rw [List.getElem?_drop, List.getElem?_eq_some_iff] at hi
  obtain ⟨h1, h2⟩ := hi
  rw [List.length_range] at h1
  rw [List.getElem_range] at h2
  exact ⟨v, by omega, by omega, rfl⟩
theorem hex_from_len {k : Nat} (hk : k < 16) : 0 < ((cut hexS (some (k : Int)) none).map sgn).length ∧ ((cut hexS (some (k : Int)) none).map sgn).length < 1000000 := by
  rw [cut_n0, List.length_map, List.length_drop]
  simp only [List.length_cons, List.length_nil]
  omega
theorem hex_upto {k : Nat} (hk : k < 16) {d : PyData} (h : d ∈ (cut hexS none (some (k : Int))).map sgn) : ∃ v, v < k ∧ d = .str ⟨([v].map dig).toArray⟩ := by
  rw [cut_0n, hexS_eq, ← List.map_take] at h
  obtain ⟨x, hx, rfl⟩ := List.mem_map.mp h
  obtain ⟨v, hv, rfl⟩ := List.mem_map.mp hx
  obtain ⟨i, hi⟩ := List.mem_iff_getElem?.mp hv
  rw [List.getElem?_take] at hi
  split at hi
  · rw [List.getElem?_eq_some_iff] at hi
    obtain ⟨h1, h2⟩ := hi
    rw [List.getElem_range] at h2
    exact ⟨v, by omega, rfl⟩
  · cases hi
theorem hex_upto_len {k : Nat} (h0 : 0 < k) (hk : k < 16) : 0 < ((cut hexS none (some (k : Int))).map sgn).length ∧ ((cut hexS none (some (k : Int))).map sgn).length < 1000000 := by
  rw [cut_0n, List.length_map, List.length_take]
  simp only [List.length_cons, List.length_nil]
  omega
/-! ### torn -/
def torn (ws ps : List Nat) : List Nat := ws.zipIdx.map fun q => if w0 ps (q.2 % ps.length) ≤ q.1 then q.1 else w0 ps (q.2 % ps.length)
theorem torn_get {ws ps : List Nat} {i w : Nat} (h : ws[i]? = some w) : (torn ws ps)[i]? = some (if w0 ps (i % ps.length) ≤ w then w else w0 ps (i % ps.length)) := by
  unfold torn
  rw [List.getElem?_map, List.getElem?_zipIdx, h]
  show some _ = some _
  rw [Nat.zero_add]
theorem torn_len (ws ps : List Nat) : (torn ws ps).length = ws.length := by
  unfold torn
  rw [List.length_map, List.length_zipIdx]
theorem torn_ok {ws ps : List Nat} (ho : Ok ws) (ho2 : Ok ps) : Ok (torn ws ps) := fun x hx => by
  obtain ⟨i, hi⟩ := List.mem_iff_getElem?.mp hx
  have hl := get_lt hi
  rw [torn_len] at hl
  rw [torn_get (w0_get hl)] at hi
  have := w0_lt ho i
  have := w0_lt ho2 (i % ps.length)
  have := Option.some.inj hi
  split at this <;> omega
theorem torn_up {ws ps : List Nat} (hl : ws.length = 256) : Up ws (torn ws ps) := fun q hq => by
  have e := torn_get (ps := ps) (w0_get (ws := ws) (p := q) (by omega))
  rw [w0_of e]
  split <;> omega
end W9
namespace W9
open PySem PySem.Spec PyProof.Rows L2
/-! ### built-in names -/

namespace K08
theorem bo_len : bootBuiltins "len" = some (.builtin "len") := by decide +kernel
theorem bo_all : bootBuiltins "all" = some (.builtin "all") := by decide +kernel
theorem bo_isinstance : bootBuiltins "isinstance" = some (.builtin "isinstance") := by decide +kernel
theorem bo_sum : bootBuiltins "sum" = some (.builtin "sum") := by decide +kernel
theorem bo_abs : bootBuiltins "abs" = some (.builtin "abs") := by decide +kernel
theorem bo_max : bootBuiltins "max" = some (.builtin "max") := by decide +kernel
theorem bo_min : bootBuiltins "min" = some (.builtin "min") := by decide +kernel
theorem bo_ord : bootBuiltins "ord" = some (.builtin "ord") := by decide +kernel
theorem bo_repr : bootBuiltins "repr" = some (.builtin "repr") := by decide +kernel
theorem bo_int : bootBuiltins "int" = some (.type "int") := by decide +kernel
theorem bo_str : bootBuiltins "str" = some (.type "str") := by decide +kernel
theorem bo_tuple : bootBuiltins "tuple" = some (.type "tuple") := by decide +kernel
theorem bo_list : bootBuiltins "list" = some (.type "list") := by decide +kernel
theorem bo_dict : bootBuiltins "dict" = some (.type "dict") := by decide +kernel
theorem bo_range : bootBuiltins "range" = some (.type "range") := by decide +kernel
theorem bo_zip : bootBuiltins "zip" = some (.type "zip") := by decide +kernel
theorem bo_enumerate : bootBuiltins "enumerate" = some (.type "enumerate") := by decide +kernel
/-! ### the text's parts -/
def topS (i : Nat) : Stmt := PySem.Challenge.pw_wornyettold_k08_whole_torn_and_fallen_ne.main.body.getD i (.Pass ⟨0, 0, 0, 0⟩)
theorem sc_are_cells : FnScope ["value", "low", "high", "cell"] ["value", "low", "high"] (defScope (topS 7)) := ⟨rfl, rfl, rfl, by decide +kernel, rfl, by decide +kernel, by decide +kernel⟩
theorem sc_is_page : FnScope ["value"] ["value"] (defScope (topS 8)) := ⟨rfl, rfl, rfl, by decide +kernel, rfl, by decide +kernel, by decide +kernel⟩
theorem sc_is_page_text : FnScope ["value", "sign"] ["value"] (defScope (topS 9)) := ⟨rfl, rfl, rfl, by decide +kernel, rfl, by decide +kernel, by decide +kernel⟩
theorem sc_cell_number : FnScope ["cell"] ["cell"] (defScope (topS 28)) := ⟨rfl, rfl, rfl, by decide +kernel, rfl, by decide +kernel, by decide +kernel⟩
theorem sc_number_in_cells : FnScope ["cells", "found", "cell"] ["cells"] (defScope (topS 29)) := ⟨rfl, rfl, rfl, by decide +kernel, rfl, by decide +kernel, by decide +kernel⟩
theorem sc_cells_of_number : FnScope ["number", "width", "found", "place"] ["number", "width"] (defScope (topS 30)) := ⟨rfl, rfl, rfl, by decide +kernel, rfl, by decide +kernel, by decide +kernel⟩
theorem sc_contrary : FnScope ["cells", "cell"] ["cells"] (defScope (topS 31)) := ⟨rfl, rfl, rfl, by decide +kernel, rfl, by decide +kernel, by decide +kernel⟩
theorem sc_sums_of : FnScope ["cells", "plain", "placed", "squared", "at", "cell", "lacking", "place"] ["cells"] (defScope (topS 32)) := ⟨rfl, rfl, rfl, by decide +kernel, rfl, by decide +kernel, by decide +kernel⟩
theorem sc_sum_cells : FnScope ["three", "found", "number", "width", "told"] ["three"] (defScope (topS 33)) := ⟨rfl, rfl, rfl, by decide +kernel, rfl, by decide +kernel, by decide +kernel⟩
theorem sc_sign_number : FnScope ["sign"] ["sign"] (defScope (topS 34)) := ⟨rfl, rfl, rfl, by decide +kernel, rfl, by decide +kernel, by decide +kernel⟩
theorem sc_sign_of : FnScope ["number", "at"] ["number"] (defScope (topS 35)) := ⟨rfl, rfl, rfl, by decide +kernel, rfl, by decide +kernel, by decide +kernel⟩
theorem sc_text_cells : FnScope ["text", "found", "sign"] ["text"] (defScope (topS 36)) := ⟨rfl, rfl, rfl, by decide +kernel, rfl, by decide +kernel, by decide +kernel⟩
theorem sc_signs_in : FnScope ["cells", "signs", "at", "both", "sign", "text"] ["cells"] (defScope (topS 37)) := ⟨rfl, rfl, rfl, by decide +kernel, rfl, by decide +kernel, by decide +kernel⟩
theorem sc_sealed_page : FnScope ["text", "cells"] ["text"] (defScope (topS 38)) := ⟨rfl, rfl, rfl, by decide +kernel, rfl, by decide +kernel, by decide +kernel⟩
theorem sc_sealed : FnScope ["text"] ["text"] (defScope (topS 39)) := ⟨rfl, rfl, rfl, by decide +kernel, rfl, by decide +kernel, by decide +kernel⟩
theorem sc_told_sums : FnScope ["cells", "found", "at", "width", "told"] ["cells"] (defScope (topS 40)) := ⟨rfl, rfl, rfl, by decide +kernel, rfl, by decide +kernel, by decide +kernel⟩
theorem sc_fallen_in_text : FnScope ["cells", "told", "more", "placed", "squared", "at", "text", "here", "there"] ["cells"] (defScope (topS 41)) := ⟨rfl, rfl, rfl, by decide +kernel, rfl, by decide +kernel, by decide +kernel⟩
theorem sc_fallen_in_sums : FnScope ["cells", "text", "due", "unlike", "at"] ["cells"] (defScope (topS 42)) := ⟨rfl, rfl, rfl, by decide +kernel, rfl, by decide +kernel, by decide +kernel⟩
theorem sc_opened : FnScope ["cells", "text", "found"] ["cells"] (defScope (topS 43)) := ⟨rfl, rfl, rfl, by decide +kernel, rfl, by decide +kernel, by decide +kernel⟩
theorem sc__law_pot : FnScope ["script", "place", "cell", "own", "small"] ["script", "place"] (defScope (topS 45)) := ⟨rfl, rfl, rfl, by decide +kernel, rfl, by decide +kernel, by decide +kernel⟩
theorem sc__law_take : FnScope ["pot", "upto", "digit", "prime", "blend"] ["pot", "upto"] (defScope (topS 46)) := ⟨rfl, rfl, rfl, by decide +kernel, rfl, by decide +kernel, by decide +kernel⟩
theorem sc__law_of : FnScope ["pot", "some"] ["pot", "some"] (defScope (topS 47)) := ⟨rfl, rfl, rfl, by decide +kernel, rfl, by decide +kernel, by decide +kernel⟩
theorem sc__law_cells : FnScope ["script", "most"] ["script", "most"] (defScope (topS 48)) := ⟨rfl, rfl, rfl, by decide +kernel, rfl, by decide +kernel, by decide +kernel⟩
theorem sc__law_chip_torn : FnScope ["cells", "pattern", "found", "at", "cell", "raised"] ["cells", "pattern"] (defScope (topS 49)) := ⟨rfl, rfl, rfl, by decide +kernel, rfl, by decide +kernel, by decide +kernel⟩
theorem sc__law_chip_pattern : FnScope ["pot", "way", "lap"] ["pot"] (defScope (topS 50)) := ⟨rfl, rfl, rfl, by decide +kernel, rfl, by decide +kernel, by decide +kernel⟩
theorem sc__law_code_worth : FnScope ["sign"] ["sign"] (defScope (topS 51)) := ⟨rfl, rfl, rfl, by decide +kernel, rfl, by decide +kernel, by decide +kernel⟩
theorem sc__law_code_sums : FnScope ["cells", "found", "at", "sign", "lack"] ["cells"] (defScope (topS 52)) := ⟨rfl, rfl, rfl, by decide +kernel, rfl, by decide +kernel, by decide +kernel⟩
theorem sc__law_code_figures : FnScope ["number", "many", "found", "lap"] ["number", "many"] (defScope (topS 53)) := ⟨rfl, rfl, rfl, by decide +kernel, rfl, by decide +kernel, by decide +kernel⟩
theorem sc__law_code_number : FnScope ["cells", "found", "sign"] ["cells"] (defScope (topS 54)) := ⟨rfl, rfl, rfl, by decide +kernel, rfl, by decide +kernel, by decide +kernel⟩
theorem sc__law_code_turned : FnScope ["cells", "sign"] ["cells"] (defScope (topS 55)) := ⟨rfl, rfl, rfl, by decide +kernel, rfl, by decide +kernel, by decide +kernel⟩
theorem sc__law_code_tail : FnScope ["cells", "found", "number", "many", "figures"] ["cells"] (defScope (topS 56)) := ⟨rfl, rfl, rfl, by decide +kernel, rfl, by decide +kernel, by decide +kernel⟩
theorem sc__law_code_signs : FnScope [] [] (defScope (topS 57)) := ⟨rfl, rfl, rfl, by decide +kernel, rfl, by decide +kernel, by decide +kernel⟩
theorem sc__law_code_sealed : FnScope ["text", "head", "sign"] ["text"] (defScope (topS 58)) := ⟨rfl, rfl, rfl, by decide +kernel, rfl, by decide +kernel, by decide +kernel⟩
theorem sc__law_code_by_numbers : FnScope ["sign"] [] (defScope (topS 59)) := ⟨rfl, rfl, rfl, by decide +kernel, rfl, by decide +kernel, by decide +kernel⟩
theorem sc__law_code_text : FnScope ["head", "signs", "many", "known", "text", "at", "sign"] ["head"] (defScope (topS 60)) := ⟨rfl, rfl, rfl, by decide +kernel, rfl, by decide +kernel, by decide +kernel⟩
theorem sc__law_code_unlike : FnScope ["one", "other", "at"] ["one", "other"] (defScope (topS 61)) := ⟨rfl, rfl, rfl, by decide +kernel, rfl, by decide +kernel, by decide +kernel⟩
theorem sc__law_code_fallen : FnScope ["cells", "page", "places"] ["cells", "page"] (defScope (topS 62)) := ⟨rfl, rfl, rfl, by decide +kernel, rfl, by decide +kernel, by decide +kernel⟩
theorem sc__law_code_told : FnScope ["cells", "found", "low", "many", "figures"] ["cells"] (defScope (topS 63)) := ⟨rfl, rfl, rfl, by decide +kernel, rfl, by decide +kernel, by decide +kernel⟩
theorem sc__law_code_lifted : FnScope ["cells", "told", "mine", "by", "far", "at"] ["cells"] (defScope (topS 64)) := ⟨rfl, rfl, rfl, by decide +kernel, rfl, by decide +kernel, by decide +kernel⟩
theorem sc__law_code_opened : FnScope ["cells", "lifted", "head", "text", "fell"] ["cells"] (defScope (topS 65)) := ⟨rfl, rfl, rfl, by decide +kernel, rfl, by decide +kernel, by decide +kernel⟩
theorem sc__law_text_drawn : FnScope ["pot", "many", "every", "signs", "lap"] ["pot"] (defScope (topS 66)) := ⟨rfl, rfl, rfl, by decide +kernel, rfl, by decide +kernel, by decide +kernel⟩
theorem sc__law_raised : FnScope ["pot", "cells", "found", "lap", "at"] ["pot", "cells"] (defScope (topS 67)) := ⟨rfl, rfl, rfl, by decide +kernel, rfl, by decide +kernel, by decide +kernel⟩
theorem sc__law_fallen : FnScope ["pot", "cells", "at"] ["pot", "cells"] (defScope (topS 68)) := ⟨rfl, rfl, rfl, by decide +kernel, rfl, by decide +kernel, by decide +kernel⟩
theorem sc__law_evened : FnScope ["pot", "page", "at", "by", "rooms", "found", "place", "more"] ["pot", "page"] (defScope (topS 69)) := ⟨rfl, rfl, rfl, by decide +kernel, rfl, by decide +kernel, by decide +kernel⟩
theorem sc__law_is_told : FnScope ["text", "cells", "told"] ["text", "cells"] (defScope (topS 70)) := ⟨rfl, rfl, rfl, by decide +kernel, rfl, by decide +kernel, by decide +kernel⟩
theorem sc__law_near_text : FnScope ["pot", "text", "at", "some"] ["pot", "text"] (defScope (topS 71)) := ⟨rfl, rfl, rfl, by decide +kernel, rfl, by decide +kernel, by decide +kernel⟩
theorem sc__law_many_greater : FnScope ["one", "other", "mine", "its"] ["one", "other"] (defScope (topS 72)) := ⟨rfl, rfl, rfl, by decide +kernel, rfl, by decide +kernel, by decide +kernel⟩
theorem sc__law_right : FnScope ["pot", "lap", "text", "page", "some", "cells", "at", "lift", "near", "pages", "one"] ["pot"] (defScope (topS 73)) := ⟨rfl, rfl, rfl, by decide +kernel, rfl, by decide +kernel, by decide +kernel⟩
theorem sc_law : FnScope ["script", "place"] ["script"] (defScope (topS 74)) := ⟨rfl, rfl, rfl, by decide +kernel, rfl, by decide +kernel, by decide +kernel⟩
structure Tx (K : PySem.W.Frag) (mg : Str → Option Value) where
  a_are_cells : Addr
  d_are_cells : FuncData
  F_are_cells : Fun K "are_cells" "are_cells" (topS 7) a_are_cells d_are_cells
  m_are_cells : mg "are_cells" = some (.ref a_are_cells)
  b_are_cells : Binds K d_are_cells ["value", "low", "high"] []
  a_is_page : Addr
  d_is_page : FuncData
  F_is_page : Fun K "is_page" "is_page" (topS 8) a_is_page d_is_page
  m_is_page : mg "is_page" = some (.ref a_is_page)
  b_is_page : Binds K d_is_page ["value"] []
  a_is_page_text : Addr
  d_is_page_text : FuncData
  F_is_page_text : Fun K "is_page_text" "is_page_text" (topS 9) a_is_page_text d_is_page_text
  m_is_page_text : mg "is_page_text" = some (.ref a_is_page_text)
  b_is_page_text : Binds K d_is_page_text ["value"] []
  a_cell_number : Addr
  d_cell_number : FuncData
  F_cell_number : Fun K "cell_number" "cell_number" (topS 28) a_cell_number d_cell_number
  m_cell_number : mg "cell_number" = some (.ref a_cell_number)
  b_cell_number : Binds K d_cell_number ["cell"] []
  a_number_in_cells : Addr
  d_number_in_cells : FuncData
  F_number_in_cells : Fun K "number_in_cells" "number_in_cells" (topS 29) a_number_in_cells d_number_in_cells
  m_number_in_cells : mg "number_in_cells" = some (.ref a_number_in_cells)
  b_number_in_cells : Binds K d_number_in_cells ["cells"] []
  a_cells_of_number : Addr
  d_cells_of_number : FuncData
  F_cells_of_number : Fun K "cells_of_number" "cells_of_number" (topS 30) a_cells_of_number d_cells_of_number
  m_cells_of_number : mg "cells_of_number" = some (.ref a_cells_of_number)
  b_cells_of_number : Binds K d_cells_of_number ["number", "width"] []
  a_contrary : Addr
  d_contrary : FuncData
  F_contrary : Fun K "contrary" "contrary" (topS 31) a_contrary d_contrary
  m_contrary : mg "contrary" = some (.ref a_contrary)
  b_contrary : Binds K d_contrary ["cells"] []
  a_sums_of : Addr
  d_sums_of : FuncData
  F_sums_of : Fun K "sums_of" "sums_of" (topS 32) a_sums_of d_sums_of
  m_sums_of : mg "sums_of" = some (.ref a_sums_of)
  b_sums_of : Binds K d_sums_of ["cells"] []
  a_sum_cells : Addr
  d_sum_cells : FuncData
  F_sum_cells : Fun K "sum_cells" "sum_cells" (topS 33) a_sum_cells d_sum_cells
  m_sum_cells : mg "sum_cells" = some (.ref a_sum_cells)
  b_sum_cells : Binds K d_sum_cells ["three"] []
  a_sign_number : Addr
  d_sign_number : FuncData
  F_sign_number : Fun K "sign_number" "sign_number" (topS 34) a_sign_number d_sign_number
  m_sign_number : mg "sign_number" = some (.ref a_sign_number)
  b_sign_number : Binds K d_sign_number ["sign"] []
  a_sign_of : Addr
  d_sign_of : FuncData
  F_sign_of : Fun K "sign_of" "sign_of" (topS 35) a_sign_of d_sign_of
  m_sign_of : mg "sign_of" = some (.ref a_sign_of)
  b_sign_of : Binds K d_sign_of ["number"] []
  a_text_cells : Addr
  d_text_cells : FuncData
  F_text_cells : Fun K "text_cells" "text_cells" (topS 36) a_text_cells d_text_cells
  m_text_cells : mg "text_cells" = some (.ref a_text_cells)
  b_text_cells : Binds K d_text_cells ["text"] []
  a_signs_in : Addr
  d_signs_in : FuncData
  F_signs_in : Fun K "signs_in" "signs_in" (topS 37) a_signs_in d_signs_in
  m_signs_in : mg "signs_in" = some (.ref a_signs_in)
  b_signs_in : Binds K d_signs_in ["cells"] []
  a_sealed_page : Addr
  d_sealed_page : FuncData
  F_sealed_page : Fun K "sealed_page" "sealed_page" (topS 38) a_sealed_page d_sealed_page
  m_sealed_page : mg "sealed_page" = some (.ref a_sealed_page)
  b_sealed_page : Binds K d_sealed_page ["text"] []
  a_sealed : Addr
  d_sealed : FuncData
  F_sealed : Fun K "sealed" "sealed" (topS 39) a_sealed d_sealed
  m_sealed : mg "sealed" = some (.ref a_sealed)
  b_sealed : Binds K d_sealed ["text"] []
  a_told_sums : Addr
  d_told_sums : FuncData
  F_told_sums : Fun K "told_sums" "told_sums" (topS 40) a_told_sums d_told_sums
  m_told_sums : mg "told_sums" = some (.ref a_told_sums)
  b_told_sums : Binds K d_told_sums ["cells"] []
  a_fallen_in_text : Addr
  d_fallen_in_text : FuncData
  F_fallen_in_text : Fun K "fallen_in_text" "fallen_in_text" (topS 41) a_fallen_in_text d_fallen_in_text
  m_fallen_in_text : mg "fallen_in_text" = some (.ref a_fallen_in_text)
  b_fallen_in_text : Binds K d_fallen_in_text ["cells"] []
  a_fallen_in_sums : Addr
  d_fallen_in_sums : FuncData
  F_fallen_in_sums : Fun K "fallen_in_sums" "fallen_in_sums" (topS 42) a_fallen_in_sums d_fallen_in_sums
  m_fallen_in_sums : mg "fallen_in_sums" = some (.ref a_fallen_in_sums)
  b_fallen_in_sums : Binds K d_fallen_in_sums ["cells"] []
  a_opened : Addr
  d_opened : FuncData
  F_opened : Fun K "opened" "opened" (topS 43) a_opened d_opened
  m_opened : mg "opened" = some (.ref a_opened)
  b_opened : Binds K d_opened ["cells"] []
  a__law_pot : Addr
  d__law_pot : FuncData
  F__law_pot : Fun K "_law_pot" "_law_pot" (topS 45) a__law_pot d__law_pot
  m__law_pot : mg "_law_pot" = some (.ref a__law_pot)
  b__law_pot : Binds K d__law_pot ["script", "place"] []
  a__law_take : Addr
  d__law_take : FuncData
  F__law_take : Fun K "_law_take" "_law_take" (topS 46) a__law_take d__law_take
  m__law_take : mg "_law_take" = some (.ref a__law_take)
  b__law_take : Binds K d__law_take ["pot", "upto"] []
  a__law_of : Addr
  d__law_of : FuncData
  F__law_of : Fun K "_law_of" "_law_of" (topS 47) a__law_of d__law_of
  m__law_of : mg "_law_of" = some (.ref a__law_of)
  b__law_of : Binds K d__law_of ["pot", "some"] []
  a__law_cells : Addr
  d__law_cells : FuncData
  F__law_cells : Fun K "_law_cells" "_law_cells" (topS 48) a__law_cells d__law_cells
  m__law_cells : mg "_law_cells" = some (.ref a__law_cells)
  b__law_cells : Binds K d__law_cells ["script", "most"] []
  a__law_chip_torn : Addr
  d__law_chip_torn : FuncData
  F__law_chip_torn : Fun K "_law_chip_torn" "_law_chip_torn" (topS 49) a__law_chip_torn d__law_chip_torn
  m__law_chip_torn : mg "_law_chip_torn" = some (.ref a__law_chip_torn)
  b__law_chip_torn : Binds K d__law_chip_torn ["cells", "pattern"] []
  a__law_chip_pattern : Addr
  d__law_chip_pattern : FuncData
  F__law_chip_pattern : Fun K "_law_chip_pattern" "_law_chip_pattern" (topS 50) a__law_chip_pattern d__law_chip_pattern
  m__law_chip_pattern : mg "_law_chip_pattern" = some (.ref a__law_chip_pattern)
  b__law_chip_pattern : Binds K d__law_chip_pattern ["pot"] []
  a__law_code_worth : Addr
  d__law_code_worth : FuncData
  F__law_code_worth : Fun K "_law_code_worth" "_law_code_worth" (topS 51) a__law_code_worth d__law_code_worth
  m__law_code_worth : mg "_law_code_worth" = some (.ref a__law_code_worth)
  b__law_code_worth : Binds K d__law_code_worth ["sign"] []
  a__law_code_sums : Addr
  d__law_code_sums : FuncData
  F__law_code_sums : Fun K "_law_code_sums" "_law_code_sums" (topS 52) a__law_code_sums d__law_code_sums
  m__law_code_sums : mg "_law_code_sums" = some (.ref a__law_code_sums)
  b__law_code_sums : Binds K d__law_code_sums ["cells"] []
  a__law_code_figures : Addr
  d__law_code_figures : FuncData
  F__law_code_figures : Fun K "_law_code_figures" "_law_code_figures" (topS 53) a__law_code_figures d__law_code_figures
  m__law_code_figures : mg "_law_code_figures" = some (.ref a__law_code_figures)
  b__law_code_figures : Binds K d__law_code_figures ["number", "many"] []
  a__law_code_number : Addr
  d__law_code_number : FuncData
  F__law_code_number : Fun K "_law_code_number" "_law_code_number" (topS 54) a__law_code_number d__law_code_number
  m__law_code_number : mg "_law_code_number" = some (.ref a__law_code_number)
  b__law_code_number : Binds K d__law_code_number ["cells"] []
  a__law_code_turned : Addr
  d__law_code_turned : FuncData
  F__law_code_turned : Fun K "_law_code_turned" "_law_code_turned" (topS 55) a__law_code_turned d__law_code_turned
  m__law_code_turned : mg "_law_code_turned" = some (.ref a__law_code_turned)
  b__law_code_turned : Binds K d__law_code_turned ["cells"] []
  a__law_code_tail : Addr
  d__law_code_tail : FuncData
  F__law_code_tail : Fun K "_law_code_tail" "_law_code_tail" (topS 56) a__law_code_tail d__law_code_tail
  m__law_code_tail : mg "_law_code_tail" = some (.ref a__law_code_tail)
  b__law_code_tail : Binds K d__law_code_tail ["cells"] []
  a__law_code_signs : Addr
  d__law_code_signs : FuncData
  F__law_code_signs : Fun K "_law_code_signs" "_law_code_signs" (topS 57) a__law_code_signs d__law_code_signs
  m__law_code_signs : mg "_law_code_signs" = some (.ref a__law_code_signs)
  b__law_code_signs : Binds K d__law_code_signs [] []
  a__law_code_sealed : Addr
  d__law_code_sealed : FuncData
  F__law_code_sealed : Fun K "_law_code_sealed" "_law_code_sealed" (topS 58) a__law_code_sealed d__law_code_sealed
  m__law_code_sealed : mg "_law_code_sealed" = some (.ref a__law_code_sealed)
  b__law_code_sealed : Binds K d__law_code_sealed ["text"] []
  a__law_code_by_numbers : Addr
  d__law_code_by_numbers : FuncData
  F__law_code_by_numbers : Fun K "_law_code_by_numbers" "_law_code_by_numbers" (topS 59) a__law_code_by_numbers d__law_code_by_numbers
  m__law_code_by_numbers : mg "_law_code_by_numbers" = some (.ref a__law_code_by_numbers)
  b__law_code_by_numbers : Binds K d__law_code_by_numbers [] []
  a__law_code_text : Addr
  d__law_code_text : FuncData
  F__law_code_text : Fun K "_law_code_text" "_law_code_text" (topS 60) a__law_code_text d__law_code_text
  m__law_code_text : mg "_law_code_text" = some (.ref a__law_code_text)
  b__law_code_text : Binds K d__law_code_text ["head"] []
  a__law_code_unlike : Addr
  d__law_code_unlike : FuncData
  F__law_code_unlike : Fun K "_law_code_unlike" "_law_code_unlike" (topS 61) a__law_code_unlike d__law_code_unlike
  m__law_code_unlike : mg "_law_code_unlike" = some (.ref a__law_code_unlike)
  b__law_code_unlike : Binds K d__law_code_unlike ["one", "other"] []
  a__law_code_fallen : Addr
  d__law_code_fallen : FuncData
  F__law_code_fallen : Fun K "_law_code_fallen" "_law_code_fallen" (topS 62) a__law_code_fallen d__law_code_fallen
  m__law_code_fallen : mg "_law_code_fallen" = some (.ref a__law_code_fallen)
  b__law_code_fallen : Binds K d__law_code_fallen ["cells", "page"] []
  a__law_code_told : Addr
  d__law_code_told : FuncData
  F__law_code_told : Fun K "_law_code_told" "_law_code_told" (topS 63) a__law_code_told d__law_code_told
  m__law_code_told : mg "_law_code_told" = some (.ref a__law_code_told)
  b__law_code_told : Binds K d__law_code_told ["cells"] []
  a__law_code_lifted : Addr
  d__law_code_lifted : FuncData
  F__law_code_lifted : Fun K "_law_code_lifted" "_law_code_lifted" (topS 64) a__law_code_lifted d__law_code_lifted
  m__law_code_lifted : mg "_law_code_lifted" = some (.ref a__law_code_lifted)
  b__law_code_lifted : Binds K d__law_code_lifted ["cells"] []
  a__law_code_opened : Addr
  d__law_code_opened : FuncData
  F__law_code_opened : Fun K "_law_code_opened" "_law_code_opened" (topS 65) a__law_code_opened d__law_code_opened
  m__law_code_opened : mg "_law_code_opened" = some (.ref a__law_code_opened)
  b__law_code_opened : Binds K d__law_code_opened ["cells"] []
  a__law_text_drawn : Addr
  d__law_text_drawn : FuncData
  F__law_text_drawn : Fun K "_law_text_drawn" "_law_text_drawn" (topS 66) a__law_text_drawn d__law_text_drawn
  m__law_text_drawn : mg "_law_text_drawn" = some (.ref a__law_text_drawn)
  b__law_text_drawn : Binds K d__law_text_drawn ["pot"] []
  a__law_raised : Addr
  d__law_raised : FuncData
  F__law_raised : Fun K "_law_raised" "_law_raised" (topS 67) a__law_raised d__law_raised
  m__law_raised : mg "_law_raised" = some (.ref a__law_raised)
  b__law_raised : Binds K d__law_raised ["pot", "cells"] []
  a__law_fallen : Addr
  d__law_fallen : FuncData
  F__law_fallen : Fun K "_law_fallen" "_law_fallen" (topS 68) a__law_fallen d__law_fallen
  m__law_fallen : mg "_law_fallen" = some (.ref a__law_fallen)
  b__law_fallen : Binds K d__law_fallen ["pot", "cells"] []
  a__law_evened : Addr
  d__law_evened : FuncData
  F__law_evened : Fun K "_law_evened" "_law_evened" (topS 69) a__law_evened d__law_evened
  m__law_evened : mg "_law_evened" = some (.ref a__law_evened)
  b__law_evened : Binds K d__law_evened ["pot", "page"] []
  a__law_is_told : Addr
  d__law_is_told : FuncData
  F__law_is_told : Fun K "_law_is_told" "_law_is_told" (topS 70) a__law_is_told d__law_is_told
  m__law_is_told : mg "_law_is_told" = some (.ref a__law_is_told)
  b__law_is_told : Binds K d__law_is_told ["text", "cells"] []
  a__law_near_text : Addr
  d__law_near_text : FuncData
  F__law_near_text : Fun K "_law_near_text" "_law_near_text" (topS 71) a__law_near_text d__law_near_text
  m__law_near_text : mg "_law_near_text" = some (.ref a__law_near_text)
  b__law_near_text : Binds K d__law_near_text ["pot", "text"] []
  a__law_many_greater : Addr
  d__law_many_greater : FuncData
  F__law_many_greater : Fun K "_law_many_greater" "_law_many_greater" (topS 72) a__law_many_greater d__law_many_greater
  m__law_many_greater : mg "_law_many_greater" = some (.ref a__law_many_greater)
  b__law_many_greater : Binds K d__law_many_greater ["one", "other"] []
  a__law_right : Addr
  d__law_right : FuncData
  F__law_right : Fun K "_law_right" "_law_right" (topS 73) a__law_right d__law_right
  m__law_right : mg "_law_right" = some (.ref a__law_right)
  b__law_right : Binds K d__law_right ["pot"] []
  a_law : Addr
  d_law : FuncData
  F_law : Fun K "law" "law" (topS 74) a_law d_law
  m_law : mg "law" = some (.ref a_law)
  b_law : Binds K d_law ["script"] []
  m_len : mg "len" = none
  m_all : mg "all" = none
  m_isinstance : mg "isinstance" = none
  m_sum : mg "sum" = none
  m_abs : mg "abs" = none
  m_max : mg "max" = none
  m_min : mg "min" = none
  m_ord : mg "ord" = none
  m_repr : mg "repr" = none
  m_int : mg "int" = none
  m_str : mg "str" = none
  m_tuple : mg "tuple" = none
  m_list : mg "list" = none
  m_dict : mg "dict" = none
  m_range : mg "range" = none
  m_zip : mg "zip" = none
  m_enumerate : mg "enumerate" = none
  c_FEED : ∃ t, mg "FEED" = some (.str ⟨([10] : List Nat).toArray⟩ t)
  c_CELLS : ∃ t, mg "CELLS" = some (.str ⟨([48, 49, 50, 51, 52, 53, 54, 55, 56, 57, 97, 98, 99, 100, 101, 102] : List Nat).toArray⟩ t)
  c_LOW_SIGNS : ∃ t, mg "LOW_SIGNS" = some (.str ⟨([32, 33, 34, 35, 36] : List Nat).toArray⟩ t)
  c_HIGH_SIGNS : ∃ t, mg "HIGH_SIGNS" = some (.str ⟨([38, 39, 40, 41, 42, 43, 44, 45, 46, 47, 48, 49, 50, 51, 52, 53, 54, 55, 56, 57, 58, 59, 60, 61, 62, 63, 64, 65, 66, 67, 68, 69, 70, 71, 72, 73, 74, 75, 76, 77, 78, 79, 80, 81, 82, 83, 84, 85, 86, 87, 88, 89, 90, 91, 92, 93, 94, 95, 96, 97, 98, 99, 100, 101, 102, 103, 104, 105, 106, 107, 108, 109, 110, 111, 112, 113, 114, 115, 116, 117, 118, 119, 120, 121, 122, 123, 124, 125, 126] : List Nat).toArray⟩ t)
  c_CELLS_A_PAGE : ∃ t, mg "CELLS_A_PAGE" = some (.int 256 t)
  c_MOST_PAGE_SIGNS : ∃ t, mg "MOST_PAGE_SIGNS" = some (.int 113 t)
  c_EMPTY : ∃ t, mg "EMPTY" = some (.str ⟨([101, 109, 112, 116, 121] : List Nat).toArray⟩ t)
  c_WHOLE : ∃ t, mg "WHOLE" = some (.str ⟨([119, 104, 111, 108, 101] : List Nat).toArray⟩ t)
  c_MENDED : ∃ t, mg "MENDED" = some (.str ⟨([109, 101, 110, 100, 101, 100] : List Nat).toArray⟩ t)
  c_TORN : ∃ t, mg "TORN" = some (.str ⟨([116, 111, 114, 110] : List Nat).toArray⟩ t)
  c_TOP : ∃ t, mg "TOP" = some (.int 15 t)
  c_SIXTEEN : ∃ t, mg "SIXTEEN" = some (.int 16 t)
  c_PAIR : ∃ t, mg "PAIR" = some (.int 2 t)
  c_FALLEN : ∃ t, mg "FALLEN" = some (.str ⟨([102] : List Nat).toArray⟩ t)
  c_CELLS_OF_TEXT : ∃ t, mg "CELLS_OF_TEXT" = some (.int 226 t)
  c_FEED_NUMBER : ∃ t, mg "FEED_NUMBER" = some (.int 10 t)
  c_LOW_NUMBER : ∃ t, mg "LOW_NUMBER" = some (.int 32 t)
  c_HIGH_NUMBER : ∃ t, mg "HIGH_NUMBER" = some (.int 38 t)
  c_WIDTHS : ∃ f, mg "WIDTHS" = some (.ref f) ∧ ∀ G, DS K G (.ref f) (Tp [.int 3, .int 5, .int 7])
end K08
end W9
namespace W9
namespace K08
open PySem PySem.Spec PyProof.Rows L2
local macro_rules | `(tactic| walk_at "lt") => `(tactic| first | assumption | omega | exact Ok.get (by assumption) (by assumption) | exact (by assumption : Ok _) _ (by assumption))
local macro_rules | `(tactic| walk_at "sz") => `(tactic| first | assumption | omega | (simp only [List.length_append, List.length_map]; omega) | (simp only [List.length_append, List.length_take, List.length_drop, List.length_map, List.length_replicate, List.length_cons, List.length_nil, digs_length, tw_length]; omega))
local macro_rules | `(tactic| walk_at "ok") => `(tactic| first | assumption | exact Ok.tk _ (by assumption) | exact Ok.dp _ (by assumption) | exact Ok.tk _ (Ok.dp _ (by assumption)) | exact digs_ok _ _ | exact cmpl_ok)
local macro_rules | `(tactic| walk_at "bd") => `(tactic| first | exact bd_add | exact bd_sub | exact bd_mul (by omega) | exact bd_mod (by omega) | exact bd_div (by omega) | exact bd_addC (by walk_at "sz") | exact bd_mulC (by walk_at "sz") | exact bd_addS (by walk_at "sz"))
local macro_rules | `(tactic| walk_at "cd") => `(tactic| first | exact cd_lt | exact cd_le | exact cd_gt | exact cd_ge | exact cd_eq | exact cd_ne | exact cd_eqC (by walk_at "ok") (by walk_at "ok") | exact cd_neC (by walk_at "ok") (by walk_at "ok") | exact cd_inHex (by walk_at "lt") | exact cd_inS | exact cd_isN | exact cd_notN)
local macro_rules | `(tactic| walk_at "md") => `(tactic| first | exact md_hex (by walk_at "lt") | exact md_joinC1 (by walk_at "sz"))
local macro_rules | `(tactic| walk_at "sd") => `(tactic| first | exact sd_hexM | exact sd_hexT (by walk_at "lt") | exact sd_C (by assumption) (by walk_at "sz"))
local macro_rules | `(tactic| walk_at "sl") => `(tactic| first | exact sl_C0n (b := 226) (by walk_at "sz"))
local macro_rules | `(tactic| walk_at "rg") => `(tactic| first | omega)
local macro_rules | `(tactic| walk_at "ca") => `(tactic| first | exact ca_isiStr | exact ca_lenC (by walk_at "sz") | exact ca_allm rfl)
local macro_rules | `(tactic| walk_at "call cell_number") => `(tactic| exact .mk (by walk_at "lt"))
local macro_rules | `(tactic| walk_at "call number_in_cells") => `(tactic| exact .mk (by walk_at "ok"))
local macro_rules | `(tactic| walk_at "call cells_of_number") => `(tactic| exact .mk (by walk_at "sz"))
local macro_rules | `(tactic| walk_at "call contrary") => `(tactic| exact .mk (by walk_at "ok") (by walk_at "sz"))
local macro_rules | `(tactic| walk_at "call sums_of") => `(tactic| exact .mk (by walk_at "ok") (by walk_at "sz"))
local macro_rules | `(tactic| walk_at "call sum_cells") => `(tactic| exact .mk)
local macro_rules | `(tactic| walk_at "call are_cells") => `(tactic| exact .mk (by walk_at "ok") (by walk_at "sz"))
local macro_rules | `(tactic| walk_at "call is_page") => `(tactic| exact .mk (by walk_at "ok") (by walk_at "sz"))
inductive R_cell_number : List SD → SD → Prop
  | mk {w : Nat} (h : w < 16) : R_cell_number [C [w]] (I w)
inductive R_number_in_cells : List SD → SD → Prop
  | mk {ws : List Nat} (h : Ok ws) : R_number_in_cells [C ws] (I (num ws))
inductive R_cells_of_number : List SD → SD → Prop
  | mk {n k : Nat} (h : k ≤ 1000) : R_cells_of_number [I n, I k] (C (digs k n))
inductive R_contrary : List SD → SD → Prop
  | mk {ws : List Nat} (h : Ok ws) (hl : ws.length ≤ 1000) : R_contrary [C ws] (C (cmpl ws))
inductive R_sums_of : List SD → SD → Prop
  | mk {ws : List Nat} (h : Ok ws) (hl : ws.length ≤ 1000) : R_sums_of [C ws] (Tp [.int (s0 ws), .int (s1 ws), .int (s2 ws)])
inductive R_sum_cells : List SD → SD → Prop
  | mk {a b c : Nat} : R_sum_cells [Tp [.int a, .int b, .int c]] (C (tailOf a b c))
inductive R_are_cells : List SD → SD → Prop
  | mk {ws : List Nat} (h : Ok ws) (hl : ws.length = 256) : R_are_cells [C ws, I 256, I 256] (B true)
inductive R_is_page : List SD → SD → Prop
  | mk {ws : List Nat} (h : Ok ws) (hl : ws.length = 256) : R_is_page [C ws] (B true)
inductive R_sums : List SD → SD → Prop
  | mk {ws : List Nat} (h : Ok ws) (hl : ws.length = 256) : R_sums [C ws] (Tp [.int (s0 ws), .int (s1 ws), .int (s2 ws)])
section
variable {P : Program} {w : World} {K : PySem.W.Frag} {mg : Str → Option Value} {base : Heap}
theorem ok_cell_number (T : Tx K mg) : FnG P w K mg base CX0 1 T.a_cell_number T.d_cell_number ["cell"] (SpD K (pureF R_cell_number)) := by
  refine fnD_ok T.F_cell_number sc_cell_number (fun xs m Pp ⟨d, h, _⟩ => by cases h; rfl) (fun cdv A outer s H E rm xs m Pp ⟨d, hR, hp⟩ => ?_)
  cases hR with | mk hw =>
  exact wss_one (ws_ret (((ee_meth PySem.F.plainAttrs_str PySem.F.slot_str_index PySem.F.type_str_index (ee_gstr T.c_CELLS) (ea_cons (ee_var (i := 0) rfl) ea_nil) (fun m => by walk_at "md"))).to hp))
theorem ok_number_in_cells (T : Tx K mg) : FnG P w K mg base CX0 2 T.a_number_in_cells T.d_number_in_cells ["cells"] (SpD K (pureF R_number_in_cells)) := by
  refine fnD_ok T.F_number_in_cells sc_number_in_cells (fun xs m Pp ⟨d, h, _⟩ => by cases h; rfl) (fun cdv A outer s H E rm xs m Pp ⟨d, hR, hp⟩ => ?_)
  cases hR with | @mk ws ho =>
  refine wss_cons (ws_set (i := 1) sc_number_in_cells.nd ((ee_int).to ?_))
  refine wss_cons (ws_for (js := [2]) (((ei_cells (ee_var (i := 0) rfl))).to ⟨fun i ds' m' => ∃ y, ds' = [some (C ws), some (I (num (ws.take i))), y] ∧ m' = m, ⟨_, rfl, rfl⟩, ?_, ?_⟩))
  · rintro i x ds' m' hx ⟨y, rfl, rfl⟩
    obtain ⟨w, hw, rfl⟩ := map_get hx
    refine wg_name ?_ sc_number_in_cells.nd
    refine wss_one (ws_set (i := 1) sc_number_in_cells.nd ((((ee_bin (ee_bin (ee_var (i := 1) rfl) (ee_gint T.c_SIXTEEN) (by walk_at "bd")) (eg_call (ok_cell_number T) (rm.mono (by decide)) T.m_cell_number T.F_cell_number.kp T.b_cell_number (ea_cons (ee_var (i := 2) rfl) ea_nil) (by walk_at "call cell_number")) (by walk_at "bd"))).is (I_eq (b := num (ws.take (i + 1))) ?_)).to ⟨_, rfl, rfl⟩))
    rw [List.take_add_one, hw]
    show _ = ((num (ws.take i ++ [w]) : Nat) : Int)
    rw [num_app]
    omega
  · rintro ds' m' ⟨y, rfl, rfl⟩
    rw [List.length_map, List.take_length]
    exact wss_one (ws_ret (((ee_var (i := 1) rfl)).to hp))
theorem ok_cells_of_number (T : Tx K mg) : FnG P w K mg base CX0 1 T.a_cells_of_number T.d_cells_of_number ["number", "width"] (SpD K (pureF R_cells_of_number)) := by
  refine fnD_ok T.F_cells_of_number sc_cells_of_number (fun xs m Pp ⟨d, h, _⟩ => by cases h; rfl) (fun cdv A outer s H E rm xs m Pp ⟨d, hR, hp⟩ => ?_)
  cases hR with | @mk n k hk =>
  refine wss_cons (ws_set (i := 2) sc_cells_of_number.nd (((EE.is (ee_strS (l := [])) (show S [] = C [] from rfl))).to ?_))
  refine wss_cons (ws_for (js := [3]) (((ei_range1 (ee_var (i := 1) rfl) (by walk_at "rg") T.m_range)).to ⟨fun i ds' m' => ∃ y, ds' = [some (I (n / 16 ^ i : Nat)), some (I k), some (C (digs i n)), y] ∧ m' = m, ⟨_, by rw [Nat.pow_zero, Nat.div_one]; rfl, rfl⟩, ?_, ?_⟩))
  · rintro i x ds' m' hx ⟨y, rfl, rfl⟩
    have hi := get_lt hx
    rw [List.length_map, List.length_range, Int.toNat_natCast] at hi
    refine wg_name ?_ sc_cells_of_number.nd
    refine wss_cons (ws_set (i := 2) sc_cells_of_number.nd ((((ee_bin (ee_sub (ee_gstr T.c_CELLS) (ee_bin (ee_var (i := 0) rfl) (ee_gint T.c_SIXTEEN) (by walk_at "bd")) (fun m => by walk_at "sd")) (ee_var (i := 2) rfl) (by walk_at "bd"))).is (C_eq (b := digs (i + 1) n) rfl)).to ?_))
    refine wss_one (ws_set (i := 0) sc_cells_of_number.nd ((((ee_bin (ee_var (i := 0) rfl) (ee_gint T.c_SIXTEEN) (by walk_at "bd"))).is (I_eq (b := (n / 16 ^ (i + 1) : Nat)) ?_)).to ⟨_, rfl, rfl⟩))
    rw [← div_step]
    omega
  · rintro ds' m' ⟨y, rfl, rfl⟩
    rw [List.length_map, List.length_range, Int.toNat_natCast]
    exact wss_one (ws_ret (((ee_var (i := 2) rfl)).to hp))
theorem ok_contrary (T : Tx K mg) : FnG P w K mg base CX0 2 T.a_contrary T.d_contrary ["cells"] (SpD K (pureF R_contrary)) := by
  refine fnD_ok T.F_contrary sc_contrary (fun xs m Pp ⟨d, h, _⟩ => by cases h; rfl) (fun cdv A outer s H E rm xs m Pp ⟨d, hR, hp⟩ => ?_)
  cases hR with | @mk ws ho hl =>
  exact wss_one (ws_retE (ee_meth PySem.F.plainAttrs_str PySem.F.slot_str_join PySem.F.type_str_join (EE.is (ee_strS (l := [])) (show S [] = C [] from rfl)) (ea_cons (ee_lcm (ws) (fun w => C [w]) (fun w => PyData.str ⟨([15 - w].map dig).toArray⟩) [("cell", 1)] rfl sc_contrary.nd (ei_cells (ee_var (i := 0) rfl)) (by walk_at "sz") (fun a ha s H Ce cl fp => (ee_sub (ee_gstr T.c_CELLS) (ee_bin (ee_gint T.c_TOP) (eg_call (ok_cell_number T) (rm.mono (by decide)) T.m_cell_number T.F_cell_number.kp T.b_cell_number (ea_cons (ee_var (i := 1) rfl) ea_nil) (by walk_at "call cell_number")) (by walk_at "bd")) (fun m => by walk_at "sd"))) (fun _ _ _ _ _ _ _ _ _ p => wg_name p sc_contrary.nd) (blkOk_by (by rfl))) ea_nil) (fun m => by walk_at "md")) hp)
theorem ok_sums_of (T : Tx K mg) : FnG P w K mg base CX0 2 T.a_sums_of T.d_sums_of ["cells"] (SpD K (pureF R_sums_of)) := by
  refine fnD_ok T.F_sums_of sc_sums_of (fun xs m Pp ⟨d, h, _⟩ => by cases h; rfl) (fun cdv A outer s H E rm xs m Pp ⟨d, hR, hp⟩ => ?_)
  cases hR with | @mk ws ho hl =>
  refine wss_cons (ws_asg (js := [1, 2, 3]) (EE.to (d := Tp [.int 0, .int 0, .int 0]) (ee_tup (eap_cons ee_int (eap_cons ee_int (eap_cons ee_int eap_nil)))) (wg_tup (wgs_cons (wg_name (wgs_cons (wg_name (wgs_cons (wg_name (wgs_nil ?_) sc_sums_of.nd)) sc_sums_of.nd)) sc_sums_of.nd)))))
  refine wss_cons (ws_for (js := [4, 5]) (((ei_enumC (ee_slice (ee_var (i := 0) rfl) eo_none (eo_some (ee_gint T.c_CELLS_OF_TEXT)) (fun m => by walk_at "sl")) (by walk_at "ok") T.m_enumerate)).to ⟨fun i ds' m' => ∃ y z u v, ds' = [some (C ws), some (I (sumW f0 0 ((ws.take 226).take i))), some (I (sumW f1 0 ((ws.take 226).take i))), some (I (sumW f2 0 ((ws.take 226).take i))), y, z, u, v] ∧ m' = m, ⟨_, _, _, _, rfl, rfl⟩, ?_, ?_⟩))
  · rintro i x ds' m' hx ⟨y, z, u, v, rfl, rfl⟩
    obtain ⟨w, hw, rfl⟩ := map_zip_get hx
    have hi := get_lt hw
    rw [List.length_take] at hi
    have hw16 : w < 16 := (ho.tk 226).get hw
    refine wg_tup (wgs_cons (wg_name (wgs_cons (wg_name (wgs_nil ?_) sc_sums_of.nd)) sc_sums_of.nd))
    refine wss_cons (ws_par (i := 6) (j := 7) sc_sums_of.nd (((ea_cons (ee_bin (ee_gint T.c_TOP) (eg_call (ok_cell_number T) (rm.mono (by decide)) T.m_cell_number T.F_cell_number.kp T.b_cell_number (ea_cons (ee_var (i := 5) rfl) ea_nil) (by walk_at "call cell_number")) (by walk_at "bd")) (ea_cons (ee_bin (ee_var (i := 4) rfl) ee_int (by walk_at "bd")) ea_nil))).to ⟨_, _, rfl, ?_⟩))
    refine wss_one (ws_par3 (i := 1) (j := 2) (l := 3) sc_sums_of.nd (((ea_cons (ee_bin (ee_var (i := 1) rfl) (ee_var (i := 6) rfl) (by walk_at "bd")) (ea_cons (ee_bin (ee_var (i := 2) rfl) (ee_bin (ee_var (i := 6) rfl) (ee_var (i := 7) rfl) (by walk_at "bd")) (by walk_at "bd")) (ea_cons (ee_bin (ee_var (i := 3) rfl) (ee_bin (ee_bin (ee_var (i := 6) rfl) (ee_var (i := 7) rfl) (by walk_at "bd")) (ee_var (i := 7) rfl) (by walk_at "bd")) (by walk_at "bd")) ea_nil)))).to ⟨_, _, _, rfl, ?_⟩))
    refine ⟨some (I i), some (C [w]), some (I (15 - (w : Int))), some (I ((i : Int) + 1)), ?_, rfl⟩
    rw [sum_t0 hw hw16, sum_t1 hw hw16, sum_t2 hw hw16]
    rfl
  · rintro ds' m' ⟨y, z, u, v, rfl, rfl⟩
    rw [List.length_map, List.length_zipIdx, List.take_length]
    exact wss_one (ws_ret (((ee_tup (eap_cons (ee_var (i := 1) rfl) (eap_cons (ee_var (i := 2) rfl) (eap_cons (ee_var (i := 3) rfl) eap_nil))))).to hp))
theorem pre_get {a b c i : Nat} {x : SD} (h : ((List.zip [PyData.int a, .int b, .int c] [.int 3, .int 5, .int 7]).map fun (q : PyData × PyData) => Tp [q.1, q.2])[i]? = some x) :
    ∃ n k : Nat, x = Tp [.int n, .int k] ∧ k ≤ 7 ∧ (tailOf a b c).take ([0, 6, 16, 30].getD (i + 1) 0) = (tailOf a b c).take ([0, 6, 16, 30].getD i 0) ++ tw k n := by
  have l1 := tw_length 3 a
  have l2 := tw_length 5 b
  have l3 := tw_length 7 c
  match i, h with
  | 0, h =>
    cases h
    refine ⟨a, 3, rfl, by decide, ?_⟩
    show (tailOf a b c).take 6 = (tailOf a b c).take 0 ++ _
    unfold tailOf
    rw [List.take_left' l1]
    rfl
  | 1, h =>
    cases h
    refine ⟨b, 5, rfl, by decide, ?_⟩
    show (tailOf a b c).take 16 = (tailOf a b c).take 6 ++ _
    unfold tailOf
    rw [List.take_left' l1, ← List.append_assoc, List.take_left' (by rw [List.length_append, l1, l2])]
  | 2, h =>
    cases h
    refine ⟨c, 7, rfl, by decide, ?_⟩
    show (tailOf a b c).take 30 = (tailOf a b c).take 16 ++ _
    rw [List.take_of_length_le (by rw [tailOf_length]; decide)]
    unfold tailOf
    rw [← List.append_assoc, List.take_left' (by rw [List.length_append, l1, l2])]
  | i + 3, h => simp at h
theorem pre_len (a b c i : Nat) : ((tailOf a b c).take i).length ≤ 30 := by
  rw [List.length_take, tailOf_length]
  omega
theorem ok_sum_cells (T : Tx K mg) : FnG P w K mg base CX0 3 T.a_sum_cells T.d_sum_cells ["three"] (SpD K (pureF R_sum_cells)) := by
  refine fnD_ok T.F_sum_cells sc_sum_cells (fun xs m Pp ⟨d, h, _⟩ => by cases h; rfl) (fun cdv A outer s H E rm xs m Pp ⟨d, hR, hp⟩ => ?_)
  cases hR with | @mk a b c =>
  refine wss_cons (ws_set (i := 1) sc_sum_cells.nd (((EE.is (ee_strS (l := [])) (show S [] = C [] from rfl))).to ?_))
  refine wss_cons (ws_for (js := [2, 3]) (((ei_zipT (ee_var (i := 0) rfl) (ee_gdat T.c_WIDTHS) T.m_zip)).to ⟨fun i ds' m' => ∃ y z u, ds' = [some (Tp [.int a, .int b, .int c]), some (C ((tailOf a b c).take ([0, 6, 16, 30].getD i 0))), y, z, u] ∧ m' = m, ⟨_, _, _, rfl, rfl⟩, ?_, ?_⟩))
  · rintro i x ds' m' hx ⟨y, z, u, rfl, rfl⟩
    obtain ⟨n, k, rfl, hk, e⟩ := pre_get hx
    have hl := pre_len a b c ([0, 6, 16, 30].getD i 0)
    have hd := digs_length k n
    refine wg_tup (wgs_cons (wg_name (wgs_cons (wg_name (wgs_nil ?_) sc_sum_cells.nd)) sc_sum_cells.nd))
    refine wss_cons (ws_set (i := 4) sc_sum_cells.nd (((eg_call (ok_cells_of_number T) (rm.mono (by decide)) T.m_cells_of_number T.F_cells_of_number.kp T.b_cells_of_number (ea_cons (ee_var (i := 2) rfl) (ea_cons (ee_var (i := 3) rfl) ea_nil)) (by walk_at "call cells_of_number"))).to ?_))
    refine wss_one (ws_set (i := 1) sc_sum_cells.nd ((((ee_bin (ee_bin (ee_var (i := 1) rfl) (ee_var (i := 4) rfl) (by walk_at "bd")) (eg_call (ok_contrary T) (rm.mono (by decide)) T.m_contrary T.F_contrary.kp T.b_contrary (ea_cons (ee_var (i := 4) rfl) ea_nil) (by walk_at "call contrary")) (by walk_at "bd"))).is (C_eq (b := (tailOf a b c).take ([0, 6, 16, 30].getD (i + 1) 0)) ?_)).to ⟨_, _, _, rfl, rfl⟩))
    rw [e, List.append_assoc]
    rfl
  · rintro ds' m' ⟨y, z, u, rfl, rfl⟩
    refine wss_one (ws_ret ((((ee_var (i := 1) rfl)).is (C_eq (b := tailOf a b c) ?_)).to hp))
    exact List.take_of_length_le (by rw [tailOf_length]; exact Nat.le_refl 30)
theorem ok_are_cells (T : Tx K mg) : FnG P w K mg base CX0 1 T.a_are_cells T.d_are_cells ["value", "low", "high"] (SpD K (pureF R_are_cells)) := by
  refine fnD_ok T.F_are_cells sc_are_cells (fun xs m Pp ⟨d, h, _⟩ => by cases h; rfl) (fun cdv A outer s H E rm xs m Pp ⟨d, hR, hp⟩ => ?_)
  cases hR with | @mk ws ho hl =>
  refine wss_one (ws_ret (((ee_and (ee_callB (ea_cons (ee_var (i := 0) rfl) (ea_cons (ee_blt (v := .ty "str") T.m_str bo_str rfl) ea_nil)) (fun m => by walk_at "ca") T.m_isinstance bo_isinstance) fun _ => ee_and (we_chain (ee_var (i := 1) rfl) (ee_callB (ea_cons (ee_var (i := 0) rfl) ea_nil) (fun m => by walk_at "ca") T.m_len bo_len) (ee_var (i := 2) rfl) (by walk_at "cd") (by walk_at "cd") rfl).1 fun _ => ee_one (ee_callB (ea_cons (ee_lcm (ws) (fun w => C [w]) (fun _ => PyData.bool true) [("cell", 3)] rfl sc_are_cells.nd (ei_cells (ee_var (i := 0) rfl)) (by walk_at "sz") (fun a ha s H Ce cl fp => (ee_cmp (ee_var (i := 3) rfl) (ee_gstr T.c_CELLS) (by walk_at "cd"))) (fun _ _ _ _ _ _ _ _ _ p => wg_name p sc_are_cells.nd) (blkOk_by (by rfl))) ea_nil) (fun m => by walk_at "ca") T.m_all bo_all)).is (B_eq (b := true) ?_)).to hp))
  rw [hl]
  simp
theorem ok_is_page (T : Tx K mg) : FnG P w K mg base CX0 2 T.a_is_page T.d_is_page ["value"] (SpD K (pureF R_is_page)) := by
  refine fnD_ok T.F_is_page sc_is_page (fun xs m Pp ⟨d, h, _⟩ => by cases h; rfl) (fun cdv A outer s H E rm xs m Pp ⟨d, hR, hp⟩ => ?_)
  cases hR with | @mk ws ho hl =>
  exact wss_one (ws_ret (((eg_call (ok_are_cells T) (rm.mono (by decide)) T.m_are_cells T.F_are_cells.kp T.b_are_cells (ea_cons (ee_var (i := 0) rfl) (ea_cons (ee_gint T.c_CELLS_A_PAGE) (ea_cons (ee_gint T.c_CELLS_A_PAGE) ea_nil))) (by walk_at "call are_cells"))).to hp))

end
end K08
end W9
namespace W9
namespace K08
open PySem PySem.Spec PyProof.Rows L2
local macro_rules | `(tactic| walk_at "lt") => `(tactic| first | assumption | exact w0_lt (by assumption) _ | exact w0_lt (sealT_ok _) _ | omega | exact Ok.get (by assumption) (by assumption) | exact (by assumption : Ok _) _ (by assumption))
local macro_rules | `(tactic| walk_at "sz") => `(tactic| first | assumption | omega | decide | (simp only [List.length_append, List.length_map]; omega) | (simp only [List.length_append, List.length_take, List.length_drop, List.length_map, List.length_replicate, List.length_range, List.length_cons, List.length_nil, digs_length, tw_length, enc_length, rep_length, tailOf_length]; omega))
local macro_rules | `(tactic| walk_at "ok") => `(tactic| first | assumption | exact Ok.tk _ (by assumption) | exact Ok.dp _ (by assumption) | exact Ok.tk _ (Ok.dp _ (by assumption)) | exact digs_ok _ _ | exact cmpl_ok | exact cellsOf_ok _ | exact sealT_ok _ | exact cut_ok (by assumption) _ _ | exact rep_ok (by decide) | exact Ok.nil | exact Ok.one (w0_lt (by assumption) _) | exact Ok.one (w0_lt (sealT_ok _) _) | exact Ok.one (by decide) | exact Ok.app (Ok.one (by decide)) (Ok.one (by decide)))
local macro_rules | `(tactic| walk_at "bd") => `(tactic| first | exact bd_add | exact bd_sub | exact bd_mul (by omega) | exact bd_mul (by have := rng_of (by assumption); omega) | exact bd_mod (by omega) | exact bd_pow (by omega) | exact bd_powX (by decide +kernel) | exact bd_mod (by decide +kernel) | exact bd_mulB | exact bd_mod (by have := of_decide_eq_false (by assumption); omega) | exact bd_div (by omega) | exact bd_addC (by walk_at "sz") | exact bd_mulC (by walk_at "sz") | exact bd_mulC ⟨by decide, by decide, by assumption⟩ | exact bd_addS (by walk_at "sz") | exact bd_catL (by walk_at "sz"))
local macro_rules | `(tactic| walk_at "cd") => `(tactic| first | exact cd_lt | exact cd_ltC (by walk_at "lt") (by walk_at "lt") | exact cd_le | exact cd_gt | exact cd_ge | exact cd_eq | exact cd_ne | exact cd_eqC (by walk_at "ok") (by walk_at "ok") | exact cd_neC (by walk_at "ok") (by walk_at "ok") | exact cd_inHex (by walk_at "lt") | exact cd_inS | exact cd_isN | exact cd_notN | exact cd_eqS | exact cd_neS)
local macro_rules | `(tactic| walk_at "md") => `(tactic| first | exact md_hex (by walk_at "lt") | exact md_joinC1 (by walk_at "sz") | exact md_joinCf (f := digs 2) (k := 2) (fun _ _ => by rw [digs_length]; decide) (by walk_at "sz") | exact md_joinS (by walk_at "sz") | exact md_index (low_occ _ (by omega) (by omega) (by omega)) | exact md_index (high_occ _ (by omega) (by omega) (by omega)))
local macro_rules | `(tactic| walk_at "sd") => `(tactic| first | exact sd_hexM | exact sd_hexT (by walk_at "lt") | exact sd_C (by assumption) (by walk_at "sz") | exact sd_C (w0_get (by omega)) (by walk_at "sz") | exact sd_Ci (by have := rng_of (by assumption); omega) (w0_get (by have := rng_of (by assumption); omega)) (by walk_at "sz") | exact sd_Ci (by omega) (w0_get (by omega)) (by walk_at "sz") | exact sd_C (w0_get (Nat.lt_of_lt_of_le ((by assumption : ∀ a, a ∈ _ → a < 256) _ (by assumption)) (Nat.le_of_eq (Eq.symm (by assumption))))) (by walk_at "sz") | exact sd_hexN (by omega) (by omega) | exact sd_ints (l := [2147483647, 2147483629, 2147483587, 2147483579, 2147483563]) (by omega) (by simp only [List.length_cons, List.length_nil]; omega) | exact sd_lst rfl | exact sd_tup rfl | exact sd_low (by omega) | exact sd_high (by omega))
local macro_rules | `(tactic| walk_at "sl") => `(tactic| first | exact sl_C0n (b := 226) (by walk_at "sz") | exact sl_C0n (b := 226) (by walk_at "sz") | exact sl_Cn0 (a := 226) (by walk_at "sz") | exact sl_C (by walk_at "sz") | exact sl_L)
local macro_rules | `(tactic| walk_at "rg") => `(tactic| first | exact rg_pairs | omega)
local macro_rules | `(tactic| walk_at "ca") => `(tactic| first | exact ca_isiStr | exact ca_lenC (by walk_at "sz") | exact ca_allm rfl | exact ca_lenS (by walk_at "sz") | exact ca_lenL | exact ca_lenT | exact ca_tupL | exact ca_ord | exact ca_int | exact ca_intB | exact ca_abs | exact ca_max2 rfl | exact ca_min2 rfl | exact ca_listS rfl (by walk_at "sz"))
local macro_rules | `(tactic| walk_at "call cell_number") => `(tactic| exact .mk (by walk_at "lt"))
local macro_rules | `(tactic| walk_at "call number_in_cells") => `(tactic| exact .mk (by walk_at "ok"))
local macro_rules | `(tactic| walk_at "call cells_of_number") => `(tactic| first | exact .mk (k := 2) (by decide) | exact .mk (by walk_at "sz"))
local macro_rules | `(tactic| walk_at "call contrary") => `(tactic| exact .mk (by walk_at "ok") (by walk_at "sz"))
local macro_rules | `(tactic| walk_at "call sums_of") => `(tactic| exact .mk (by walk_at "ok") (by walk_at "sz"))
local macro_rules | `(tactic| walk_at "call sum_cells") => `(tactic| exact .mk)
local macro_rules | `(tactic| walk_at "call sign_number") => `(tactic| first | exact .mk (by assumption) | exact .mk ((by assumption : OkT _) _ (by assumption)))
local macro_rules | `(tactic| walk_at "call sign_of") => `(tactic| exact .mk (by assumption))
local macro_rules | `(tactic| walk_at "call is_page_text") => `(tactic| exact .mk (by assumption) (by assumption))
local macro_rules | `(tactic| walk_at "call text_cells") => `(tactic| exact .mk (by assumption) (by assumption))
local macro_rules | `(tactic| walk_at "fl") => `(tactic| first | rfl | exact int_ne255 | simp)
local macro_rules | `(tactic| walk_at "call signs_in") => `(tactic| exact .mk (by walk_at "ok") (by walk_at "sz") (by walk_at "sz"))
local macro_rules | `(tactic| walk_at "call sealed_page") => `(tactic| exact .mk (by assumption) (by assumption))
local macro_rules | `(tactic| walk_at "call told_sums") => `(tactic| exact .mk (by walk_at "ok") (by walk_at "sz"))
local macro_rules | `(tactic| walk_at "call fallen_in_text") => `(tactic| exact .mk (by walk_at "ok") (by walk_at "sz"))
local macro_rules | `(tactic| walk_at "call fallen_in_sums") => `(tactic| exact .mk (by walk_at "ok") (by walk_at "sz"))
local macro_rules | `(tactic| walk_at "call are_cells") => `(tactic| exact .mk (by walk_at "ok") (by walk_at "sz"))
local macro_rules | `(tactic| walk_at "call is_page") => `(tactic| exact .mk (by walk_at "ok") (by walk_at "sz"))
local macro_rules | `(tactic| walk_at "call _law_code_worth") => `(tactic| exact .mk (by walk_at "lt"))
local macro_rules | `(tactic| walk_at "call _law_code_number") => `(tactic| exact .mk (by walk_at "ok"))
local macro_rules | `(tactic| walk_at "call _law_code_figures") => `(tactic| first | exact .mk (k := 2) (by decide) | exact .mk (by walk_at "sz"))
local macro_rules | `(tactic| walk_at "call _law_code_turned") => `(tactic| exact .mk (by walk_at "ok") (by walk_at "sz"))
local macro_rules | `(tactic| walk_at "call _law_code_sums") => `(tactic| exact .mk (by walk_at "ok") (by walk_at "sz"))
local macro_rules | `(tactic| walk_at "call _law_code_tail") => `(tactic| exact .mk (by walk_at "ok") (by walk_at "sz"))
local macro_rules | `(tactic| walk_at "call _law_code_signs") => `(tactic| exact .mk)
local macro_rules | `(tactic| walk_at "call _law_code_unlike") => `(tactic| exact .mk (by walk_at "ok") (by walk_at "sz") (by walk_at "ok") (by walk_at "sz"))
local macro_rules | `(tactic| walk_at "call _law_code_fallen") => `(tactic| exact .mk (by walk_at "ok") (by walk_at "sz") (by walk_at "ok") (by walk_at "sz"))
local macro_rules | `(tactic| walk_at "call _law_code_sealed") => `(tactic| exact .mk (by assumption) (by assumption))
local macro_rules | `(tactic| walk_at "call _law_code_text") => `(tactic| exact .mk (by walk_at "ok") (by walk_at "sz"))
local macro_rules | `(tactic| walk_at "call _law_code_told") => `(tactic| exact .mk (by walk_at "ok") (by walk_at "sz"))
local macro_rules | `(tactic| walk_at "call _law_code_lifted") => `(tactic| exact .mk (by walk_at "ok") (by walk_at "sz"))
local macro_rules | `(tactic| walk_at "call _law_code_opened") => `(tactic| exact .mk (by walk_at "ok") (by walk_at "sz"))
local macro_rules | `(tactic| walk_at "rep") => `(tactic| assumption)
local macro_rules | `(tactic| walk_at "call sums") => `(tactic| exact .mk (by walk_at "ok") (by walk_at "sz"))
local macro_rules | `(tactic| walk_at "call opened") => `(tactic| exact .mk (by walk_at "ok") (by walk_at "sz"))
local macro_rules | `(tactic| walk_at "call _law_cells") => `(tactic| exact .mk)

inductive R_sign_number : List SD → SD → Prop
  | mk {c : Nat} (h : al c = true) : R_sign_number [S [c]] (I c)
inductive R_sign_of : List SD → SD → Prop
  | mk {n : Nat} (h : n < 256) : R_sign_of [I n] (.py (oneS n))
inductive R_is_page_text : List SD → SD → Prop
  | mk {t : List Nat} (h : OkT t) (hl : t.length ≤ 113) : R_is_page_text [S t] (B true)
inductive R_text_cells : List SD → SD → Prop
  | mk {t : List Nat} (h : OkT t) (hl : t.length ≤ 113) : R_text_cells [S t] (C (cellsOf t))
inductive R_signs_in : List SD → SD → Prop
  | mk {ws : List Nat} (h : Ok ws) (hl : 226 ≤ ws.length) (hm : ws.length ≤ 1000) : R_signs_in [C ws] (.py (optT (dec ws)))
inductive R_sealed_page : List SD → SD → Prop
  | mk {t : List Nat} (h : OkT t) (hl : t.length ≤ 113) : R_sealed_page [S t] (C (sealT t))
section
variable {P : Program} {w : World} {K : PySem.W.Frag} {mg : Str → Option Value} {base : Heap}
theorem ok_sign_number (T : Tx K mg) : FnG P w K mg base CX0 1 T.a_sign_number T.d_sign_number ["sign"] (SpD K (pureF R_sign_number)) := by
  refine fnD_ok T.F_sign_number sc_sign_number (fun xs m Pp ⟨d, h, _⟩ => by cases h; rfl) (fun cdv A outer s H E rm xs m Pp ⟨d, hR, hp⟩ => ?_)
  cases hR with | @mk c hc =>
  have hc' := al_iff.mp hc
  refine wss_cons (ws_ife (et_cmp (ee_var (i := 0) rfl) (ee_gstr T.c_FEED) (by walk_at "cd")) (fun h => ?_) fun h => ?_)
  · have e : c = 10 := by simpa using of_decide_eq_true h
    subst e
    exact wss_one (ws_retE (ee_gint T.c_FEED_NUMBER) hp)
  · refine wss_nil ?_
    have hne : c ≠ 10 := fun z => by rw [z] at h; simp at h
    refine wss_one (ws_retE (ee_if (et_cmp (ee_var (i := 0) rfl) (ee_gstr T.c_LOW_SIGNS) (by walk_at "cd")) (fun h2 => ?_) (fun h2 => ?_)) hp)
    · have h3 := low_mem.mp (of_decide_eq_true h2)
      exact EE.is (ee_bin (ee_gint T.c_LOW_NUMBER) (ee_meth PySem.F.plainAttrs_str PySem.F.slot_str_index PySem.F.type_str_index (ee_gstr T.c_LOW_SIGNS) (ea_cons (ee_var (i := 0) rfl) ea_nil) (fun m => by walk_at "md")) (by walk_at "bd")) (I_eq (by omega))
    · have h3 : ¬ (32 ≤ c ∧ c ≤ 36) := fun z => of_decide_eq_false h2 (low_mem.mpr z)
      exact EE.is (ee_bin (ee_gint T.c_HIGH_NUMBER) (ee_meth PySem.F.plainAttrs_str PySem.F.slot_str_index PySem.F.type_str_index (ee_gstr T.c_HIGH_SIGNS) (ea_cons (ee_var (i := 0) rfl) ea_nil) (fun m => by walk_at "md")) (by walk_at "bd")) (I_eq (by omega))
theorem ok_sign_of (T : Tx K mg) : FnG P w K mg base CX0 1 T.a_sign_of T.d_sign_of ["number"] (SpD K (pureF R_sign_of)) := by
  refine fnD_ok T.F_sign_of sc_sign_of (fun xs m Pp ⟨d, h, _⟩ => by cases h; rfl) (fun cdv A outer s H E rm xs m Pp ⟨d, hR, hp⟩ => ?_)
  cases hR with | @mk n hn =>
  refine wss_cons (ws_ife (et_cmp (ee_var (i := 0) rfl) (ee_gint T.c_FEED_NUMBER) (by walk_at "cd")) (fun h => ?_) fun h => ?_)
  · have e : n = 10 := by have := of_decide_eq_true h; omega
    subst e
    exact wss_one (ws_retE (EE.is (ee_gstr T.c_FEED) (show S [10] = .py (oneS 10) from rfl)) hp)
  · refine wss_nil ?_
    have hne : n ≠ 10 := fun z => by have := of_decide_eq_false h; omega
    refine wss_cons (ws_ife (we_chain (ee_gint T.c_LOW_NUMBER) (ee_var (i := 0) rfl) (ee_bin (ee_gint T.c_LOW_NUMBER) (ee_callB (ea_cons (ee_gstr T.c_LOW_SIGNS) ea_nil) (fun m => by walk_at "ca") T.m_len bo_len) (by walk_at "bd")) (by walk_at "cd") (by walk_at "cd") rfl).2 (fun h2 => ?_) fun h2 => ?_)
    · have h3 : 32 ≤ n ∧ n ≤ 36 := by
        rw [Bool.and_eq_true, decide_eq_true_eq, decide_eq_true_eq] at h2
        have := h2.2
        simp only [List.length_cons, List.length_nil] at this
        omega
      have h4 : al n = true := al_iff.mpr (by omega)
      refine wss_one (ws_retE (EE.is (ee_sub (ee_gstr T.c_LOW_SIGNS) (ee_bin (ee_var (i := 0) rfl) (ee_gint T.c_LOW_NUMBER) (by walk_at "bd")) (fun m => by walk_at "sd")) (show S [n] = .py (oneS n) from ?_)) hp)
      unfold oneS
      rw [if_pos h4]
    · have h3 : ¬ (32 ≤ n ∧ n ≤ 36) := by
        rw [Bool.and_eq_false_iff, decide_eq_false_iff_not, decide_eq_false_iff_not] at h2
        simp only [List.length_cons, List.length_nil] at h2
        omega
      refine wss_nil (wss_cons (ws_setE (i := 1) sc_sign_of.nd (ee_bin (ee_var (i := 0) rfl) (ee_gint T.c_HIGH_NUMBER) (by walk_at "bd")) ?_))
      refine wss_one (ws_retE (ee_if (we_chain ee_int (ee_var (i := 1) rfl) (ee_callB (ea_cons (ee_gstr T.c_HIGH_SIGNS) ea_nil) (fun m => by walk_at "ca") T.m_len bo_len) (by walk_at "cd") (by walk_at "cd") rfl).2 (fun h5 => ?_) (fun h5 => ?_)) hp)
      · have h6 : 38 ≤ n ∧ n ≤ 126 := by
          rw [Bool.and_eq_true, decide_eq_true_eq, decide_eq_true_eq] at h5
          have := h5.2
          simp only [List.length_cons, List.length_nil] at this
          omega
        have h4 : al n = true := al_iff.mpr (by omega)
        refine EE.is (ee_sub (ee_gstr T.c_HIGH_SIGNS) (ee_var (i := 1) rfl) (fun m => by walk_at "sd")) (show S [n] = .py (oneS n) from ?_)
        unfold oneS
        rw [if_pos h4]
      · have h6 : ¬ (38 ≤ n ∧ n ≤ 126) := by
          rw [Bool.and_eq_false_iff, decide_eq_false_iff_not, decide_eq_false_iff_not] at h5
          simp only [List.length_cons, List.length_nil] at h5
          omega
        have h4 : ¬ al n = true := fun z => by have := al_iff.mp z; omega
        refine EE.is ee_non (show N0 = .py (oneS n) from ?_)
        unfold oneS
        rw [if_neg h4]
theorem ok_is_page_text (T : Tx K mg) : FnG P w K mg base CX0 1 T.a_is_page_text T.d_is_page_text ["value"] (SpD K (pureF R_is_page_text)) := by
  refine fnD_ok T.F_is_page_text sc_is_page_text (fun xs m Pp ⟨d, h, _⟩ => by cases h; rfl) (fun cdv A outer s H E rm xs m Pp ⟨d, hR, hp⟩ => ?_)
  cases hR with | @mk t ht hl =>
  refine wss_cons (ws_ife (et_w (ew_or (et_not (et_val (ee_callB (ea_cons (ee_var (i := 0) rfl) (ea_cons (ee_blt (v := .ty "str") T.m_str bo_str rfl) ea_nil)) (fun m => by walk_at "ca") T.m_isinstance bo_isinstance))) (fun hk => (ew_or1 (et_cmp (ee_callB (ea_cons (ee_var (i := 0) rfl) ea_nil) (fun m => by walk_at "ca") T.m_len bo_len) (ee_gint T.c_MOST_PAGE_SIGNS) (by walk_at "cd")))))) (fun h => ?_) fun h => ?_)
  · exfalso
    simp only [Bool.or_eq_true, Bool.not_eq_true', decide_eq_true_eq] at h
    rcases h with h | h
    · cases h
    · omega
  · refine wss_nil (wss_one (ws_retE (EE.is (ee_callB (ea_cons (ee_lcm (t) (fun c => S [c]) (fun c => PyData.bool (decide ([c] = [10]) || (decide (c ∈ lowS) || decide (c ∈ highS)))) [("sign", 1)] rfl sc_is_page_text.nd (ei_str (ee_var (i := 0) rfl)) (by walk_at "sz") (fun a ha s H Ce cl fp => (ee_or (ee_cmp (ee_var (i := 1) rfl) (ee_gstr T.c_FEED) (by walk_at "cd")) (fun hk => (ee_or (ee_cmp (ee_var (i := 1) rfl) (ee_gstr T.c_LOW_SIGNS) (by walk_at "cd")) (fun hk => (ee_one (ee_cmp (ee_var (i := 1) rfl) (ee_gstr T.c_HIGH_SIGNS) (by walk_at "cd")))))))) (fun _ _ _ _ _ _ _ _ _ p => wg_name p sc_is_page_text.nd) (blkOk_by (by rfl))) ea_nil) (fun m => by walk_at "ca") T.m_all bo_all) (B_eq (b := true) ?_)) hp))
    rw [List.all_eq_true]
    intro c hc
    have := al_iff.mp (ht c hc)
    rw [Bool.or_eq_true, Bool.or_eq_true, decide_eq_true_eq, decide_eq_true_eq, decide_eq_true_eq, low_mem, high_mem, List.cons.injEq]
    simp only [and_true]
    omega
theorem ok_text_cells (T : Tx K mg) : FnG P w K mg base CX0 2 T.a_text_cells T.d_text_cells ["text"] (SpD K (pureF R_text_cells)) := by
  refine fnD_ok T.F_text_cells sc_text_cells (fun xs m Pp ⟨d, h, _⟩ => by cases h; rfl) (fun cdv A outer s H E rm xs m Pp ⟨d, hR, hp⟩ => ?_)
  cases hR with | @mk t ht hl =>
  have he := enc_length t
  refine wss_cons (ws_setE (i := 1) sc_text_cells.nd (EE.is (ee_meth PySem.F.plainAttrs_str PySem.F.slot_str_join PySem.F.type_str_join (EE.is (ee_strS (l := [])) (show S [] = C [] from rfl)) (ea_cons (ee_lcm (t) (fun c => S [c]) (fun c => PyData.str ⟨((digs 2 c).map dig).toArray⟩) [("sign", 2)] rfl sc_text_cells.nd (ei_str (ee_var (i := 0) rfl)) (by walk_at "sz") (fun a ha s H Ce cl fp => (eg_call (ok_cells_of_number T) (rm.mono (by decide)) T.m_cells_of_number T.F_cells_of_number.kp T.b_cells_of_number (ea_cons (eg_call (ok_sign_number T) (rm.mono (by decide)) T.m_sign_number T.F_sign_number.kp T.b_sign_number (ea_cons (ee_var (i := 2) rfl) ea_nil) (by walk_at "call sign_number")) (ea_cons (ee_gint T.c_PAIR) ea_nil)) (by walk_at "call cells_of_number"))) (fun _ _ _ _ _ _ _ _ _ p => wg_name p sc_text_cells.nd) (blkOk_by (by rfl))) ea_nil) (fun m => by walk_at "md")) (C_eq (b := enc t) rfl)) ?_)
  refine wss_one (ws_retE (EE.is (ee_bin (ee_var (i := 1) rfl) (ee_bin (EE.is (ee_gstr T.c_FALLEN) (show S [102] = C [15] from rfl)) (ee_bin (ee_gint T.c_CELLS_OF_TEXT) (ee_callB (ea_cons (ee_var (i := 1) rfl) ea_nil) (fun m => by walk_at "ca") T.m_len bo_len) (by walk_at "bd")) (by walk_at "bd")) (by walk_at "bd")) (C_eq (b := cellsOf t) ?_)) hp)
  unfold cellsOf
  rw [rep_one, he]
  congr 2
  omega
theorem ok_sealed_page (T : Tx K mg) : FnG P w K mg base CX0 4 T.a_sealed_page T.d_sealed_page ["text"] (SpD K (pureF R_sealed_page)) := by
  refine fnD_ok T.F_sealed_page sc_sealed_page (fun xs m Pp ⟨d, h, _⟩ => by cases h; rfl) (fun cdv A outer s H E rm xs m Pp ⟨d, hR, hp⟩ => ?_)
  cases hR with | @mk t ht hl =>
  have hc := cellsOf_length hl
  refine wss_cons (ws_setE (i := 1) sc_sealed_page.nd (eg_call (ok_text_cells T) (rm.mono (by decide)) T.m_text_cells T.F_text_cells.kp T.b_text_cells (ea_cons (ee_var (i := 0) rfl) ea_nil) (by walk_at "call text_cells")) ?_)
  refine wss_one (ws_retE (EE.is (ee_bin (ee_var (i := 1) rfl) (eg_call (ok_sum_cells T) (rm.mono (by decide)) T.m_sum_cells T.F_sum_cells.kp T.b_sum_cells (ea_cons (eg_call (ok_sums_of T) (rm.mono (by decide)) T.m_sums_of T.F_sums_of.kp T.b_sums_of (ea_cons (ee_var (i := 1) rfl) ea_nil) (by walk_at "call sums_of")) ea_nil) (by walk_at "call sum_cells")) (by walk_at "bd")) (C_eq (b := sealT t) rfl)) hp)
end
end K08
end W9
namespace W9
namespace K08
open PySem PySem.Spec PyProof.Rows L2
local macro_rules | `(tactic| walk_at "lt") => `(tactic| first | assumption | exact w0_lt (by assumption) _ | exact w0_lt (sealT_ok _) _ | omega | exact Ok.get (by assumption) (by assumption) | exact (by assumption : Ok _) _ (by assumption))
local macro_rules | `(tactic| walk_at "sz") => `(tactic| first | assumption | omega | decide | (simp only [List.length_append, List.length_map]; omega) | (simp only [List.length_append, List.length_take, List.length_drop, List.length_map, List.length_replicate, List.length_range, List.length_cons, List.length_nil, digs_length, tw_length, enc_length, rep_length, tailOf_length]; omega))
local macro_rules | `(tactic| walk_at "ok") => `(tactic| first | assumption | exact Ok.tk _ (by assumption) | exact Ok.dp _ (by assumption) | exact Ok.tk _ (Ok.dp _ (by assumption)) | exact digs_ok _ _ | exact cmpl_ok | exact cellsOf_ok _ | exact sealT_ok _ | exact cut_ok (by assumption) _ _ | exact rep_ok (by decide) | exact Ok.nil | exact Ok.one (w0_lt (by assumption) _) | exact Ok.one (w0_lt (sealT_ok _) _) | exact Ok.one (by decide) | exact Ok.app (Ok.one (by decide)) (Ok.one (by decide)))
local macro_rules | `(tactic| walk_at "bd") => `(tactic| first | exact bd_add | exact bd_sub | exact bd_mul (by omega) | exact bd_mul (by have := rng_of (by assumption); omega) | exact bd_mod (by omega) | exact bd_pow (by omega) | exact bd_powX (by decide +kernel) | exact bd_mod (by decide +kernel) | exact bd_mulB | exact bd_mod (by have := of_decide_eq_false (by assumption); omega) | exact bd_div (by omega) | exact bd_addC (by walk_at "sz") | exact bd_mulC (by walk_at "sz") | exact bd_mulC ⟨by decide, by decide, by assumption⟩ | exact bd_addS (by walk_at "sz") | exact bd_catL (by walk_at "sz"))
local macro_rules | `(tactic| walk_at "cd") => `(tactic| first | exact cd_lt | exact cd_ltC (by walk_at "lt") (by walk_at "lt") | exact cd_le | exact cd_gt | exact cd_ge | exact cd_eq | exact cd_ne | exact cd_eqC (by walk_at "ok") (by walk_at "ok") | exact cd_neC (by walk_at "ok") (by walk_at "ok") | exact cd_inHex (by walk_at "lt") | exact cd_inS | exact cd_isN | exact cd_notN | exact cd_eqS | exact cd_neS)
local macro_rules | `(tactic| walk_at "md") => `(tactic| first | exact md_hex (by walk_at "lt") | exact md_joinC1 (by walk_at "sz") | exact md_joinCf (f := digs 2) (k := 2) (fun _ _ => by rw [digs_length]; decide) (by walk_at "sz") | exact md_joinS (by walk_at "sz") | exact md_index (low_occ _ (by omega) (by omega) (by omega)) | exact md_index (high_occ _ (by omega) (by omega) (by omega)))
local macro_rules | `(tactic| walk_at "sd") => `(tactic| first | exact sd_hexM | exact sd_hexT (by walk_at "lt") | exact sd_C (by assumption) (by walk_at "sz") | exact sd_C (w0_get (by omega)) (by walk_at "sz") | exact sd_Ci (by have := rng_of (by assumption); omega) (w0_get (by have := rng_of (by assumption); omega)) (by walk_at "sz") | exact sd_Ci (by omega) (w0_get (by omega)) (by walk_at "sz") | exact sd_C (w0_get (Nat.lt_of_lt_of_le ((by assumption : ∀ a, a ∈ _ → a < 256) _ (by assumption)) (Nat.le_of_eq (Eq.symm (by assumption))))) (by walk_at "sz") | exact sd_hexN (by omega) (by omega) | exact sd_ints (l := [2147483647, 2147483629, 2147483587, 2147483579, 2147483563]) (by omega) (by simp only [List.length_cons, List.length_nil]; omega) | exact sd_lst rfl | exact sd_tup rfl | exact sd_low (by omega) | exact sd_high (by omega))
local macro_rules | `(tactic| walk_at "sl") => `(tactic| first | exact sl_C0n (b := 226) (by walk_at "sz") | exact sl_C0n (b := 226) (by walk_at "sz") | exact sl_Cn0 (a := 226) (by walk_at "sz") | exact sl_C (by walk_at "sz") | exact sl_L)
local macro_rules | `(tactic| walk_at "rg") => `(tactic| first | exact rg_pairs | omega)
local macro_rules | `(tactic| walk_at "ca") => `(tactic| first | exact ca_isiStr | exact ca_lenC (by walk_at "sz") | exact ca_allm rfl | exact ca_lenS (by walk_at "sz") | exact ca_lenL | exact ca_lenT | exact ca_tupL | exact ca_ord | exact ca_int | exact ca_intB | exact ca_abs | exact ca_max2 rfl | exact ca_min2 rfl | exact ca_listS rfl (by walk_at "sz"))
local macro_rules | `(tactic| walk_at "call cell_number") => `(tactic| exact .mk (by walk_at "lt"))
local macro_rules | `(tactic| walk_at "call number_in_cells") => `(tactic| exact .mk (by walk_at "ok"))
local macro_rules | `(tactic| walk_at "call cells_of_number") => `(tactic| first | exact .mk (k := 2) (by decide) | exact .mk (by walk_at "sz"))
local macro_rules | `(tactic| walk_at "call contrary") => `(tactic| exact .mk (by walk_at "ok") (by walk_at "sz"))
local macro_rules | `(tactic| walk_at "call sums_of") => `(tactic| exact .mk (by walk_at "ok") (by walk_at "sz"))
local macro_rules | `(tactic| walk_at "call sum_cells") => `(tactic| exact .mk)
local macro_rules | `(tactic| walk_at "call sign_number") => `(tactic| first | exact .mk (by assumption) | exact .mk ((by assumption : OkT _) _ (by assumption)))
local macro_rules | `(tactic| walk_at "call sign_of") => `(tactic| exact .mk (by assumption))
local macro_rules | `(tactic| walk_at "call is_page_text") => `(tactic| exact .mk (by assumption) (by assumption))
local macro_rules | `(tactic| walk_at "call text_cells") => `(tactic| exact .mk (by assumption) (by assumption))
local macro_rules | `(tactic| walk_at "fl") => `(tactic| first | rfl | exact int_ne255 | simp)
local macro_rules | `(tactic| walk_at "call signs_in") => `(tactic| exact .mk (by walk_at "ok") (by walk_at "sz") (by walk_at "sz"))
local macro_rules | `(tactic| walk_at "call sealed_page") => `(tactic| exact .mk (by assumption) (by assumption))
local macro_rules | `(tactic| walk_at "call told_sums") => `(tactic| exact .mk (by walk_at "ok") (by walk_at "sz"))
local macro_rules | `(tactic| walk_at "call fallen_in_text") => `(tactic| exact .mk (by walk_at "ok") (by walk_at "sz"))
local macro_rules | `(tactic| walk_at "call fallen_in_sums") => `(tactic| exact .mk (by walk_at "ok") (by walk_at "sz"))
local macro_rules | `(tactic| walk_at "call are_cells") => `(tactic| exact .mk (by walk_at "ok") (by walk_at "sz"))
local macro_rules | `(tactic| walk_at "call is_page") => `(tactic| exact .mk (by walk_at "ok") (by walk_at "sz"))
local macro_rules | `(tactic| walk_at "call _law_code_worth") => `(tactic| exact .mk (by walk_at "lt"))
local macro_rules | `(tactic| walk_at "call _law_code_number") => `(tactic| exact .mk (by walk_at "ok"))
local macro_rules | `(tactic| walk_at "call _law_code_figures") => `(tactic| first | exact .mk (k := 2) (by decide) | exact .mk (by walk_at "sz"))
local macro_rules | `(tactic| walk_at "call _law_code_turned") => `(tactic| exact .mk (by walk_at "ok") (by walk_at "sz"))
local macro_rules | `(tactic| walk_at "call _law_code_sums") => `(tactic| exact .mk (by walk_at "ok") (by walk_at "sz"))
local macro_rules | `(tactic| walk_at "call _law_code_tail") => `(tactic| exact .mk (by walk_at "ok") (by walk_at "sz"))
local macro_rules | `(tactic| walk_at "call _law_code_signs") => `(tactic| exact .mk)
local macro_rules | `(tactic| walk_at "call _law_code_unlike") => `(tactic| exact .mk (by walk_at "ok") (by walk_at "sz") (by walk_at "ok") (by walk_at "sz"))
local macro_rules | `(tactic| walk_at "call _law_code_fallen") => `(tactic| exact .mk (by walk_at "ok") (by walk_at "sz") (by walk_at "ok") (by walk_at "sz"))
local macro_rules | `(tactic| walk_at "call _law_code_sealed") => `(tactic| exact .mk (by assumption) (by assumption))
local macro_rules | `(tactic| walk_at "call _law_code_text") => `(tactic| exact .mk (by walk_at "ok") (by walk_at "sz"))
local macro_rules | `(tactic| walk_at "call _law_code_told") => `(tactic| exact .mk (by walk_at "ok") (by walk_at "sz"))
local macro_rules | `(tactic| walk_at "call _law_code_lifted") => `(tactic| exact .mk (by walk_at "ok") (by walk_at "sz"))
local macro_rules | `(tactic| walk_at "call _law_code_opened") => `(tactic| exact .mk (by walk_at "ok") (by walk_at "sz"))
local macro_rules | `(tactic| walk_at "rep") => `(tactic| assumption)
local macro_rules | `(tactic| walk_at "call sums") => `(tactic| exact .mk (by walk_at "ok") (by walk_at "sz"))
local macro_rules | `(tactic| walk_at "call opened") => `(tactic| exact .mk (by walk_at "ok") (by walk_at "sz"))
local macro_rules | `(tactic| walk_at "call _law_cells") => `(tactic| exact .mk)

section
variable {P : Program} {w : World} {K : PySem.W.Frag} {mg : Str → Option Value} {base : Heap}
theorem both_get {ws : List Nat} {i : Nat} (hl : 226 ≤ ws.length) (hi : i < 113) : (ps ws)[i]? = some (num ((ws.drop (2 * i)).take 2)) := by
  unfold ps
  rw [pairs_get (by rw [List.length_take]; omega), List.drop_take, List.take_take, Nat.min_eq_left (by omega)]
theorem both_ok {ws : List Nat} {i : Nat} (ho : Ok ws) (hl : 226 ≤ ws.length) (hi : i < 113) : num ((ws.drop (2 * i)).take 2) < 256 := by
  have h := num_lt ((ho.dp (2 * i)).tk 2)
  rw [List.length_take, List.length_drop, Nat.min_eq_left (by omega)] at h
  exact h
theorem oneS_none {n : Nat} (h : isNone (oneS n) = true) : al n = false := by
  unfold oneS at h
  split at h
  · cases h
  · next q => exact Bool.eq_false_iff.mpr q
theorem oneS_some {n : Nat} (h : isNone (oneS n) = false) : al n = true ∧ oneS n = .str ⟨[n].toArray⟩ := by
  unfold oneS at h ⊢
  split at h
  · next q => exact ⟨q, if_pos q⟩
  · cases h
theorem ok_signs_in (T : Tx K mg) : FnG P w K mg base CX0 3 T.a_signs_in T.d_signs_in ["cells"] (SpD K (pureF R_signs_in)) := by
  refine fnD_ok T.F_signs_in sc_signs_in (fun xs m Pp ⟨d, h, _⟩ => by cases h; rfl) (fun cdv A outer s H E rm xs m Pp ⟨d, hR, hp⟩ => ?_)
  cases hR with | @mk ws ho hl hm =>
  have hpl := ps_length hl
  refine wss_cons (ws_new (i := 1) sc_signs_in.nd fun p hpf => ?_)
  refine wss_cons (ws_forB (js := [2]) (fun ds' m' => ∃ acc y2 y3 y4 y5, OkT acc ∧ acc = (ps ws).take acc.length ∧ (acc.length = 113 ∨ (ps ws)[acc.length]? = some 255) ∧ ds' = [some (C ws), some (.raw (.ref p)), y2, y3, y4, y5] ∧ m' = (p, .dl (acc.map fun c => PyData.str ⟨[c].toArray⟩)) :: m)
    (((ei_range3 ee_int (ee_gint T.c_CELLS_OF_TEXT) (ee_gint T.c_PAIR) (by walk_at "rg") T.m_range)).to ⟨fun i ds' m' => ∃ y2 y3 y4 y5, OkT ((ps ws).take i) ∧ ds' = [some (C ws), some (.raw (.ref p)), y2, y3, y4, y5] ∧ m' = (p, .dl (((ps ws).take i).map fun c => PyData.str ⟨[c].toArray⟩)) :: m, ⟨none, none, none, none, (by rw [List.take_zero]; exact fun _ h => (nomatch h)), rfl, (by rw [List.take_zero]; rfl)⟩, ?_, ?_⟩) ?_)
  · rintro i x ds' m' hx ⟨y2, y3, y4, y5, ha, rfl, rfl⟩
    have hi : i < 113 := by
      have := get_lt hx
      rwa [List.length_map, List.length_range] at this
    obtain ⟨j, hj, rfl⟩ := map_get hx
    rw [List.getElem?_range hi] at hj
    cases hj
    have hb : Ok ((ws.drop (2 * i)).take 2) := (ho.dp _).tk 2
    have hg := both_get hl hi
    have hn := both_ok ho hl hi
    have hlen : ((ps ws).take i).length = i := by rw [List.length_take]; omega
    refine wg_name ?_ sc_signs_in.nd
    refine wss_cons (ws_setE (i := 3) sc_signs_in.nd (EE.is (ee_slice (ee_var (i := 0) rfl) (eo_some (ee_var (i := 2) rfl)) (eo_some (ee_bin (ee_var (i := 2) rfl) (ee_gint T.c_PAIR) (by walk_at "bd"))) (fun m => by walk_at "sl")) (C_eq (b := (ws.drop (2 * i)).take 2) ((cut_nat (a := 2 * i) (b := 2 * i + 2) ws (by omega) (by omega)).trans (by rw [Nat.add_sub_cancel_left])))) ?_)
    refine wss_cons (ws_ife (et_cmp (ee_var (i := 3) rfl) (ee_bin (EE.is (ee_gstr T.c_FALLEN) (show S [102] = C [15] from rfl)) (EE.is (ee_gstr T.c_FALLEN) (show S [102] = C [15] from rfl)) (by walk_at "bd")) (by walk_at "cd")) (fun h => ?_) fun h => ?_)
    · refine wss_one (ws_break ⟨(ps ws).take i, _, _, _, _, ha, by rw [hlen], Or.inr ?_, rfl, rfl⟩)
      have e : (ws.drop (2 * i)).take 2 = [15, 15] := of_decide_eq_true h
      rw [hlen, hg, e]
      rfl
    · have hne : num ((ws.drop (2 * i)).take 2) ≠ 255 := fun z => of_decide_eq_false h (by
        have e := digs_num hb
        rw [List.length_take, List.length_drop, Nat.min_eq_left (by omega), z] at e
        exact e.symm)
      refine wss_nil (wss_cons (ws_setE (i := 4) sc_signs_in.nd (eg_call (ok_sign_of T) (rm.mono (by decide)) T.m_sign_of T.F_sign_of.kp T.b_sign_of (ea_cons (eg_call (ok_number_in_cells T) (rm.mono (by decide)) T.m_number_in_cells T.F_number_in_cells.kp T.b_number_in_cells (ea_cons (ee_var (i := 3) rfl) ea_nil) (by walk_at "call number_in_cells")) ea_nil) (by walk_at "call sign_of")) ?_))
      refine wss_cons (ws_ife (et_cmp (ee_var (i := 4) rfl) ee_non (by walk_at "cd")) (fun h2 => ?_) fun h2 => ?_)
      · rw [dec_bad hg (oneS_none h2) hne] at hp
        exact wss_drop (wss_one (ws_retE ee_non hp))
      · obtain ⟨h3, h4⟩ := oneS_some h2
        have e : (ps ws).take (i + 1) = (ps ws).take i ++ [num ((ws.drop (2 * i)).take 2)] := by
          rw [List.take_add_one, hg]
          rfl
        refine wss_nil (wss_one (ws_appH (d := .str ⟨[num ((ws.drop (2 * i)).take 2)].toArray⟩) hpf (ee_var (i := 1) rfl) (EE.is (ee_var (i := 4) rfl) (by rw [h4])) (by rw [List.length_map, hlen]; omega) ⟨_, _, _, _, ?_, rfl, ?_⟩))
        · rw [e]
          exact ha.snoc h3
        · rw [e, List.map_append]
          rfl
  · rintro ds' m' ⟨y2, y3, y4, y5, ha, rfl, rfl⟩
    rw [List.length_map, List.length_range] at *
    have hlen : ((ps ws).take 113).length = 113 := by rw [List.length_take]; omega
    exact ⟨_, _, _, _, _, ha, by rw [hlen], Or.inl hlen, rfl, rfl⟩
  · rintro ds' m' ⟨acc, y2, y3, y4, y5, ha, hpre, hend, rfl, rfl⟩
    have hn : acc.length ≤ 113 := by
      rcases hend with h | h
      · omega
      · have := get_lt h
        omega
    refine wss_seal (i := 1) rfl ?_
    refine wss_cons (ws_setE (i := 5) sc_signs_in.nd (ee_meth PySem.F.plainAttrs_str PySem.F.slot_str_join PySem.F.type_str_join (EE.is (ee_strS (l := [])) (show S [] = C [] from rfl)) (ea_cons (ee_var (i := 1) rfl) ea_nil) (fun m => by walk_at "md")) ?_)
    refine wss_one (ws_retE (EE.is (ee_ifp (et_w (ew_and (et_val (eg_call (ok_is_page_text T) (rm.mono (by decide)) T.m_is_page_text T.F_is_page_text.kp T.b_is_page_text (ea_cons (ee_var (i := 5) rfl) ea_nil) (by walk_at "call is_page_text"))) (fun hk => (ew_and1 (et_cmp (eg_call (ok_text_cells T) (rm.mono (by decide)) T.m_text_cells T.F_text_cells.kp T.b_text_cells (ea_cons (ee_var (i := 5) rfl) ea_nil) (by walk_at "call text_cells")) (ee_slice (ee_var (i := 0) rfl) eo_none (eo_some (ee_gint T.c_CELLS_OF_TEXT)) (fun m => by walk_at "sl")) (by walk_at "cd")))))) (fun _ => (ee_var (i := 5) rfl)) (fun _ => ee_non)) ?_) hp)
    rw [dec_scan ho hl ha hpre hend, Bool.true_and]
    by_cases h : cellsOf acc = ws.take 226
    · rw [if_pos h, if_pos (decide_eq_true h)]
      rfl
    · rw [if_neg h, if_neg (by rw [decide_eq_true_eq]; exact h)]
      rfl
end
end K08
end W9
namespace W9
namespace K08
open PySem PySem.Spec PyProof.Rows L2
local macro_rules | `(tactic| walk_at "lt") => `(tactic| first | assumption | exact w0_lt (by assumption) _ | exact w0_lt (sealT_ok _) _ | omega | exact Ok.get (by assumption) (by assumption) | exact (by assumption : Ok _) _ (by assumption))
local macro_rules | `(tactic| walk_at "sz") => `(tactic| first | assumption | omega | decide | (simp only [List.length_append, List.length_map]; omega) | (simp only [List.length_append, List.length_take, List.length_drop, List.length_map, List.length_replicate, List.length_range, List.length_cons, List.length_nil, digs_length, tw_length, enc_length, rep_length, tailOf_length]; omega))
local macro_rules | `(tactic| walk_at "ok") => `(tactic| first | assumption | exact Ok.tk _ (by assumption) | exact Ok.dp _ (by assumption) | exact Ok.tk _ (Ok.dp _ (by assumption)) | exact digs_ok _ _ | exact cmpl_ok | exact cellsOf_ok _ | exact sealT_ok _ | exact cut_ok (by assumption) _ _ | exact rep_ok (by decide) | exact Ok.nil | exact Ok.one (w0_lt (by assumption) _) | exact Ok.one (w0_lt (sealT_ok _) _) | exact Ok.one (by decide) | exact Ok.app (Ok.one (by decide)) (Ok.one (by decide)))
local macro_rules | `(tactic| walk_at "bd") => `(tactic| first | exact bd_add | exact bd_sub | exact bd_mul (by omega) | exact bd_mul (by have := rng_of (by assumption); omega) | exact bd_mod (by omega) | exact bd_pow (by omega) | exact bd_powX (by decide +kernel) | exact bd_mod (by decide +kernel) | exact bd_mulB | exact bd_mod (by have := of_decide_eq_false (by assumption); omega) | exact bd_div (by omega) | exact bd_addC (by walk_at "sz") | exact bd_mulC (by walk_at "sz") | exact bd_mulC ⟨by decide, by decide, by assumption⟩ | exact bd_addS (by walk_at "sz") | exact bd_catL (by walk_at "sz"))
local macro_rules | `(tactic| walk_at "cd") => `(tactic| first | exact cd_lt | exact cd_ltC (by walk_at "lt") (by walk_at "lt") | exact cd_le | exact cd_gt | exact cd_ge | exact cd_eq | exact cd_ne | exact cd_eqC (by walk_at "ok") (by walk_at "ok") | exact cd_neC (by walk_at "ok") (by walk_at "ok") | exact cd_inHex (by walk_at "lt") | exact cd_inS | exact cd_isN | exact cd_notN | exact cd_eqS | exact cd_neS)
local macro_rules | `(tactic| walk_at "md") => `(tactic| first | exact md_hex (by walk_at "lt") | exact md_joinC1 (by walk_at "sz") | exact md_joinCf (f := digs 2) (k := 2) (fun _ _ => by rw [digs_length]; decide) (by walk_at "sz") | exact md_joinS (by walk_at "sz") | exact md_index (low_occ _ (by omega) (by omega) (by omega)) | exact md_index (high_occ _ (by omega) (by omega) (by omega)))
local macro_rules | `(tactic| walk_at "sd") => `(tactic| first | exact sd_hexM | exact sd_hexT (by walk_at "lt") | exact sd_C (by assumption) (by walk_at "sz") | exact sd_C (w0_get (by omega)) (by walk_at "sz") | exact sd_Ci (by have := rng_of (by assumption); omega) (w0_get (by have := rng_of (by assumption); omega)) (by walk_at "sz") | exact sd_Ci (by omega) (w0_get (by omega)) (by walk_at "sz") | exact sd_C (w0_get (Nat.lt_of_lt_of_le ((by assumption : ∀ a, a ∈ _ → a < 256) _ (by assumption)) (Nat.le_of_eq (Eq.symm (by assumption))))) (by walk_at "sz") | exact sd_hexN (by omega) (by omega) | exact sd_ints (l := [2147483647, 2147483629, 2147483587, 2147483579, 2147483563]) (by omega) (by simp only [List.length_cons, List.length_nil]; omega) | exact sd_lst rfl | exact sd_tup rfl | exact sd_low (by omega) | exact sd_high (by omega))
local macro_rules | `(tactic| walk_at "sl") => `(tactic| first | exact sl_C0n (b := 226) (by walk_at "sz") | exact sl_C0n (b := 226) (by walk_at "sz") | exact sl_Cn0 (a := 226) (by walk_at "sz") | exact sl_C (by walk_at "sz") | exact sl_L)
local macro_rules | `(tactic| walk_at "rg") => `(tactic| first | exact rg_pairs | omega)
local macro_rules | `(tactic| walk_at "ca") => `(tactic| first | exact ca_isiStr | exact ca_lenC (by walk_at "sz") | exact ca_allm rfl | exact ca_lenS (by walk_at "sz") | exact ca_lenL | exact ca_lenT | exact ca_tupL | exact ca_ord | exact ca_int | exact ca_intB | exact ca_abs | exact ca_max2 rfl | exact ca_min2 rfl | exact ca_listS rfl (by walk_at "sz"))
local macro_rules | `(tactic| walk_at "call cell_number") => `(tactic| exact .mk (by walk_at "lt"))
local macro_rules | `(tactic| walk_at "call number_in_cells") => `(tactic| exact .mk (by walk_at "ok"))
local macro_rules | `(tactic| walk_at "call cells_of_number") => `(tactic| first | exact .mk (k := 2) (by decide) | exact .mk (by walk_at "sz"))
local macro_rules | `(tactic| walk_at "call contrary") => `(tactic| exact .mk (by walk_at "ok") (by walk_at "sz"))
local macro_rules | `(tactic| walk_at "call sums_of") => `(tactic| exact .mk (by walk_at "ok") (by walk_at "sz"))
local macro_rules | `(tactic| walk_at "call sum_cells") => `(tactic| exact .mk)
local macro_rules | `(tactic| walk_at "call sign_number") => `(tactic| first | exact .mk (by assumption) | exact .mk ((by assumption : OkT _) _ (by assumption)))
local macro_rules | `(tactic| walk_at "call sign_of") => `(tactic| exact .mk (by assumption))
local macro_rules | `(tactic| walk_at "call is_page_text") => `(tactic| exact .mk (by assumption) (by assumption))
local macro_rules | `(tactic| walk_at "call text_cells") => `(tactic| exact .mk (by assumption) (by assumption))
local macro_rules | `(tactic| walk_at "fl") => `(tactic| first | rfl | exact int_ne255 | simp)
local macro_rules | `(tactic| walk_at "call signs_in") => `(tactic| exact .mk (by walk_at "ok") (by walk_at "sz") (by walk_at "sz"))
local macro_rules | `(tactic| walk_at "call sealed_page") => `(tactic| exact .mk (by assumption) (by assumption))
local macro_rules | `(tactic| walk_at "call told_sums") => `(tactic| exact .mk (by walk_at "ok") (by walk_at "sz"))
local macro_rules | `(tactic| walk_at "call fallen_in_text") => `(tactic| exact .mk (by walk_at "ok") (by walk_at "sz"))
local macro_rules | `(tactic| walk_at "call fallen_in_sums") => `(tactic| exact .mk (by walk_at "ok") (by walk_at "sz"))
local macro_rules | `(tactic| walk_at "call are_cells") => `(tactic| exact .mk (by walk_at "ok") (by walk_at "sz"))
local macro_rules | `(tactic| walk_at "call is_page") => `(tactic| exact .mk (by walk_at "ok") (by walk_at "sz"))
local macro_rules | `(tactic| walk_at "call _law_code_worth") => `(tactic| exact .mk (by walk_at "lt"))
local macro_rules | `(tactic| walk_at "call _law_code_number") => `(tactic| exact .mk (by walk_at "ok"))
local macro_rules | `(tactic| walk_at "call _law_code_figures") => `(tactic| first | exact .mk (k := 2) (by decide) | exact .mk (by walk_at "sz"))
local macro_rules | `(tactic| walk_at "call _law_code_turned") => `(tactic| exact .mk (by walk_at "ok") (by walk_at "sz"))
local macro_rules | `(tactic| walk_at "call _law_code_sums") => `(tactic| exact .mk (by walk_at "ok") (by walk_at "sz"))
local macro_rules | `(tactic| walk_at "call _law_code_tail") => `(tactic| exact .mk (by walk_at "ok") (by walk_at "sz"))
local macro_rules | `(tactic| walk_at "call _law_code_signs") => `(tactic| exact .mk)
local macro_rules | `(tactic| walk_at "call _law_code_unlike") => `(tactic| exact .mk (by walk_at "ok") (by walk_at "sz") (by walk_at "ok") (by walk_at "sz"))
local macro_rules | `(tactic| walk_at "call _law_code_fallen") => `(tactic| exact .mk (by walk_at "ok") (by walk_at "sz") (by walk_at "ok") (by walk_at "sz"))
local macro_rules | `(tactic| walk_at "call _law_code_sealed") => `(tactic| exact .mk (by assumption) (by assumption))
local macro_rules | `(tactic| walk_at "call _law_code_text") => `(tactic| exact .mk (by walk_at "ok") (by walk_at "sz"))
local macro_rules | `(tactic| walk_at "call _law_code_told") => `(tactic| exact .mk (by walk_at "ok") (by walk_at "sz"))
local macro_rules | `(tactic| walk_at "call _law_code_lifted") => `(tactic| exact .mk (by walk_at "ok") (by walk_at "sz"))
local macro_rules | `(tactic| walk_at "call _law_code_opened") => `(tactic| exact .mk (by walk_at "ok") (by walk_at "sz"))
local macro_rules | `(tactic| walk_at "rep") => `(tactic| assumption)
local macro_rules | `(tactic| walk_at "call sums") => `(tactic| exact .mk (by walk_at "ok") (by walk_at "sz"))
local macro_rules | `(tactic| walk_at "call opened") => `(tactic| exact .mk (by walk_at "ok") (by walk_at "sz"))
local macro_rules | `(tactic| walk_at "call _law_cells") => `(tactic| exact .mk)

inductive R_told_sums : List SD → SD → Prop
  | mk {ws : List Nat} (h : Ok ws) (hl : ws.length = 256) : R_told_sums [C ws] (.py (tolP (tolds ws)))
inductive R_fallen_in_text : List SD → SD → Prop
  | mk {ws : List Nat} (h : Ok ws) (hl : ws.length = 256) : R_fallen_in_text [C ws] (.py (ftP (ft ws)))
inductive R_fallen_in_sums : List SD → SD → Prop
  | mk {ws : List Nat} (h : Ok ws) (hl : ws.length = 256) : R_fallen_in_sums [C ws] (.py (ftP (fs ws)))
inductive R_opened : List SD → SD → Prop
  | mk {ws : List Nat} (h : Ok ws) (hl : ws.length = 256) : R_opened [C ws] (.py (po ws))
section
variable {P : Program} {w : World} {K : PySem.W.Frag} {mg : Str → Option Value} {base : Heap}
theorem ok_told_sums (T : Tx K mg) : FnG P w K mg base CX0 3 T.a_told_sums T.d_told_sums ["cells"] (SpD K (pureF R_told_sums)) := by
  refine fnD_ok T.F_told_sums sc_told_sums (fun xs m Pp ⟨d, h, _⟩ => by cases h; rfl) (fun cdv A outer s H E rm xs m Pp ⟨d, hR, hp⟩ => ?_)
  cases hR with | @mk ws ho hl =>
  refine wss_cons (ws_par (i := 1) (j := 2) sc_told_sums.nd (wa_cons (we_lstN (wa_nil ⟨[], rfl, by decide, fun p hpf => wa_cons (EE.to (ee_gint T.c_CELLS_OF_TEXT) (wa_nil ⟨_, _, rfl, ?_⟩))⟩))))
  refine wss_cons (ws_for (js := [3]) (((ei_tup (ee_gdat T.c_WIDTHS))).to ⟨fun i ds' m' => ∃ y3 y4, (∀ j, j < i → cnd ws j) ∧ ds' = [some (C ws), some (.raw (.ref p)), some (I (atw i : Nat)), y3, y4] ∧ m' = (p, .dl ((List.range i).map fun j => PyData.int (nums ws j : Nat))) :: m, ⟨none, none, (fun j hj => absurd hj (Nat.not_lt_zero j)), rfl, rfl⟩, ?_, ?_⟩))
  · rintro i x ds' m' hx ⟨y3, y4, hc, rfl, rfl⟩
    obtain ⟨hi, rfl⟩ := wk_get hx
    have hb := atw_le hi
    refine wg_name ?_ sc_told_sums.nd
    refine wss_cons (ws_setE (i := 4) sc_told_sums.nd (EE.is (ee_slice (ee_var (i := 0) rfl) (eo_some (ee_var (i := 2) rfl)) (eo_some (ee_bin (ee_var (i := 2) rfl) (ee_var (i := 3) rfl) (by walk_at "bd"))) (fun m => by walk_at "sl")) (C_eq (b := told ws i) ((cut_nat (a := atw i) (b := atw i + wk i) ws rfl (by omega)).trans (by rw [Nat.add_sub_cancel_left])))) ?_)
    have hlen : (told ws i).length ≤ 7 := by rw [List.length_take]; omega
    have hok : Ok (told ws i) := (ho.dp _).tk _
    have ec : cut ws (some ((atw i : Nat) + (wk i : Nat) : Int)) (some ((atw i : Nat) + 2 * (wk i : Nat) : Int)) = (ws.drop (atw i + wk i)).take (wk i) := (cut_nat (a := atw i + wk i) (b := atw i + 2 * wk i) ws (by omega) (by omega)).trans (by congr 1; omega)
    refine wss_cons (ws_ife (et_cmp (eg_call (ok_contrary T) (rm.mono (by decide)) T.m_contrary T.F_contrary.kp T.b_contrary (ea_cons (ee_var (i := 4) rfl) ea_nil) (by walk_at "call contrary")) (ee_slice (ee_var (i := 0) rfl) (eo_some (ee_bin (ee_var (i := 2) rfl) (ee_var (i := 3) rfl) (by walk_at "bd"))) (eo_some (ee_bin (ee_var (i := 2) rfl) (ee_bin (ee_gint T.c_PAIR) (ee_var (i := 3) rfl) (by walk_at "bd")) (by walk_at "bd"))) (fun m => by walk_at "sl")) (by walk_at "cd")) (fun h => ?_) fun h => ?_)
    · have hn : ¬ cnd ws i := fun z => by
        rw [ec, Bool.not_eq_true', decide_eq_false_iff_not] at h
        exact h z
      rw [tolds_no hi hn] at hp
      exact wss_drop (wss_one (ws_retE ee_non hp))
    · have hy : cnd ws i := by
        rw [ec, Bool.not_eq_false', decide_eq_true_eq] at h
        exact h
      refine wss_nil (wss_cons (ws_appH (d := .int (nums ws i : Nat)) hpf (ee_var (i := 1) rfl) (eg_call (ok_number_in_cells T) (rm.mono (by decide)) T.m_number_in_cells T.F_number_in_cells.kp T.b_number_in_cells (ea_cons (ee_var (i := 4) rfl) ea_nil) (by walk_at "call number_in_cells")) (by rw [List.length_map, List.length_range]; omega) ?_))
      refine wss_one (ws_setE (i := 2) sc_told_sums.nd (EE.is (ee_bin (ee_var (i := 2) rfl) (ee_bin (ee_gint T.c_PAIR) (ee_var (i := 3) rfl) (by walk_at "bd")) (by walk_at "bd")) (I_eq (b := (atw (i + 1) : Nat)) ?_)) ⟨_, _, ?_, rfl, ?_⟩)
      · show (atw i : Int) + 2 * (wk i : Int) = ((atw i + 2 * wk i : Nat) : Int)
        omega
      · intro j hj
        by_cases e : j = i
        · rw [e]; exact hy
        · exact hc j (by omega)
      · rw [List.range_succ, List.map_append]
        rfl
  · rintro ds' m' ⟨y3, y4, hc, rfl, rfl⟩
    refine wss_seal (i := 1) rfl (wss_one (ws_retE (EE.is (ee_callTy (ea_cons (ee_var (i := 1) rfl) ea_nil) (fun m => by walk_at "ca") T.m_tuple bo_tuple) ?_) hp))
    rw [tolds_yes hc]
    rfl
theorem ok_fallen_in_text (T : Tx K mg) : FnG P w K mg base CX0 4 T.a_fallen_in_text T.d_fallen_in_text ["cells"] (SpD K (pureF R_fallen_in_text)) := by
  refine fnD_ok T.F_fallen_in_text sc_fallen_in_text (fun xs m Pp ⟨d, h, _⟩ => by cases h; rfl) (fun cdv A outer s H E rm xs m Pp ⟨d, hR, hp⟩ => ?_)
  cases hR with | @mk ws ho hl =>
  rcases e : tolds ws with _ | ⟨a, b, c⟩
  · refine wss_cons (ws_setE (i := 1) sc_fallen_in_text.nd (EE.is (eg_call (ok_told_sums T) (rm.mono (by decide)) T.m_told_sums T.F_told_sums.kp T.b_told_sums (ea_cons (ee_var (i := 0) rfl) ea_nil) (by walk_at "call told_sums")) (show _ = N0 by rw [e]; rfl)) ?_)
    refine wss_cons (ws_ife (et_cmp (ee_var (i := 1) rfl) ee_non (by walk_at "cd")) (fun _ => ?_) fun h => by cases h)
    rw [ft_no0 e] at hp
    exact wss_one (ws_retE ee_non hp)
  · refine wss_cons (ws_setE (i := 1) sc_fallen_in_text.nd (EE.is (eg_call (ok_told_sums T) (rm.mono (by decide)) T.m_told_sums T.F_told_sums.kp T.b_told_sums (ea_cons (ee_var (i := 0) rfl) ea_nil) (by walk_at "call told_sums")) (show _ = Tp [.int a, .int b, .int c] by rw [e]; rfl)) ?_)
    refine wss_cons (ws_ife (et_cmp (ee_var (i := 1) rfl) ee_non (by walk_at "cd")) (fun h => by cases h) fun _ => wss_nil ?_)
    refine wss_cons (ws_asg (js := [2, 3, 4]) (EE.to (d := Ls [.int ((s0 ws : Int) - a), .int ((s1 ws : Int) - b), .int ((s2 ws : Int) - c)])
      (ee_lct (α := Int × Int) ([((s0 ws : Int), (a : Int)), ((s1 ws : Int), (b : Int)), ((s2 ws : Int), (c : Int))]) (fun q => .int q.1) (fun q => .int q.2) (fun q => .int (q.1 - q.2)) [("here", 7), ("there", 8)] rfl sc_fallen_in_text.nd (EI.is (ei_zipT (eg_call (ok_sums_of T) (rm.mono (by decide)) T.m_sums_of T.F_sums_of.kp T.b_sums_of (ea_cons (ee_var (i := 0) rfl) ea_nil) (by walk_at "call sums_of")) (ee_var (i := 1) rfl) T.m_zip) rfl) (by walk_at "sz") (fun a ha s H Ce cl fp => (ee_bin (ee_var (i := 7) rfl) (ee_var (i := 8) rfl) (by walk_at "bd"))) (fun _ _ _ _ _ _ _ _ _ _ p => wg_tup (wgs_cons (wg_name (wgs_cons (wg_name (wgs_nil p) sc_fallen_in_text.nd)) sc_fallen_in_text.nd))) (blkOk_by (by rfl)))
      (wg_lst (wgs_cons (wg_name (wgs_cons (wg_name (wgs_cons (wg_name (wgs_nil ?_) sc_fallen_in_text.nd)) sc_fallen_in_text.nd)) sc_fallen_in_text.nd)))))
    have hs0 := s0_lt ws
    refine wss_cons (ws_ife (et_w (ew_or (et_cmp (ee_var (i := 2) rfl) ee_int (by walk_at "cd")) (fun hk => (ew_or1 (et_cmp (ee_bin (ee_var (i := 3) rfl) (ee_var (i := 2) rfl) (by walk_at "bd")) ee_int (by walk_at "cd")))))) (fun h => ?_) fun h => wss_nil ?_)
    · rw [ft_no e (by simpa using h)] at hp
      exact wss_one (ws_retE ee_non hp)
    · have h1 : ¬ ((s0 ws : Int) - a < 1 ∨ ((s1 ws : Int) - b) % ((s0 ws : Int) - a) ≠ 0) := by simpa using h
      have h2 : (1 : Int) ≤ (s0 ws : Int) - a := by omega
      refine wss_cons (ws_setE (i := 5) sc_fallen_in_text.nd (ee_bin (ee_bin (ee_var (i := 3) rfl) (ee_var (i := 2) rfl) (by walk_at "bd")) ee_int (by walk_at "bd")) ?_)
      refine wss_cons (ws_ife (et_w (ew_or (et_not (we_chain ee_int (ee_var (i := 5) rfl) (ee_gint T.c_CELLS_OF_TEXT) (by walk_at "cd") (by walk_at "cd") rfl).2) (fun hk => (ew_or (et_cmp (ee_var (i := 4) rfl) (ee_bin (ee_var (i := 3) rfl) (ee_bin (ee_var (i := 5) rfl) ee_int (by walk_at "bd")) (by walk_at "bd")) (by walk_at "cd")) (fun hk => (ew_or1 (et_cmp (ee_bin (eg_call (ok_cell_number T) (rm.mono (by decide)) T.m_cell_number T.F_cell_number.kp T.b_cell_number (ea_cons (ee_sub (ee_var (i := 0) rfl) (ee_var (i := 5) rfl) (fun m => by walk_at "sd")) ea_nil) (by walk_at "call cell_number")) (ee_var (i := 2) rfl) (by walk_at "bd")) (ee_gint T.c_TOP) (by walk_at "cd")))))))) (fun h => ?_) fun h => wss_nil ?_)
      · rw [ft_no2 e ?_] at hp
        · exact wss_one (ws_retE ee_non hp)
        · rw [Bool.or_eq_true, Bool.or_eq_true] at h
          rcases h with h | h | h
          · left
            rw [Bool.not_eq_true', Bool.and_eq_false_iff, decide_eq_false_iff_not, decide_eq_false_iff_not] at h
            exact fun z => h.elim (fun y => y z.1) fun y => y z.2
          · right; left
            rw [Bool.not_eq_true', decide_eq_false_iff_not] at h
            exact h
          · right; right
            exact of_decide_eq_true h
      · have h3 : ¬ (¬ (0 ≤ ((s1 ws : Int) - b) / ((s0 ws : Int) - a) - 1 ∧ ((s1 ws : Int) - b) / ((s0 ws : Int) - a) - 1 < 226) ∨ (s2 ws : Int) - c ≠ ((s1 ws : Int) - b) * (((s1 ws : Int) - b) / ((s0 ws : Int) - a) - 1 + 1) ∨ w0 ws (((s1 ws : Int) - b) / ((s0 ws : Int) - a) - 1).toNat + ((s0 ws : Int) - a) > 15) := by
          rw [Bool.or_eq_false_iff, Bool.or_eq_false_iff] at h
          obtain ⟨q1, q2, q3⟩ := h
          have r1 := rng_of q1
          rw [Bool.not_eq_false', decide_eq_true_eq] at q2
          rw [decide_eq_false_iff_not] at q3
          rintro (z | z | z)
          · exact z r1
          · exact z q2
          · omega
        rw [ft_yes e h1 h3] at hp
        have hr : 0 ≤ ((s1 ws : Int) - b) / ((s0 ws : Int) - a) - 1 ∧ ((s1 ws : Int) - b) / ((s0 ws : Int) - a) - 1 < 226 := Decidable.not_not.mp (not_or.mp h3).1
        have hw : w0 ws (((s1 ws : Int) - b) / ((s0 ws : Int) - a) - 1).toNat + ((s0 ws : Int) - a) ≤ 15 := by have := (not_or.mp (not_or.mp h3).2).2; omega
        generalize hat : ((s1 ws : Int) - b) / ((s0 ws : Int) - a) - 1 = at_ at *
        have hby : (by2 ws : Int) = (s0 ws : Int) - a := by
          have := tolds_a e
          unfold by2
          omega
        have hok : Ok (lifted ws at_.toNat) := raise_ok ho (by omega)
        have hll := lifted_len ho hl at_.toNat
        have hc1 : (cut ws none (some at_)).length ≤ 256 := cut_le (by omega)
        have hc2 : (cut ws (some (at_ + 1)) none).length ≤ 256 := cut_le (by omega)
        have hv : cut ws none (some at_) ++ [((w0 ws at_.toNat : Int) + ((s0 ws : Int) - a)).toNat] ++ cut ws (some (at_ + 1)) none = lifted ws at_.toNat := by
          rw [set_cut (p := at_.toNat) (by omega) (by omega) (by omega)]
          unfold lifted
          congr 1
          omega
        rcases hd : dec (lifted ws at_.toNat) with _ | t
        · refine wss_cons (ws_setE (i := 6) sc_fallen_in_text.nd (EE.is (eg_call (ok_signs_in T) (rm.mono (by decide)) T.m_signs_in T.F_signs_in.kp T.b_signs_in (ea_cons (EE.is (ee_bin (ee_bin (ee_slice (ee_var (i := 0) rfl) eo_none (eo_some (ee_var (i := 5) rfl)) (fun m => by walk_at "sl")) (ee_sub (ee_gstr T.c_CELLS) (ee_bin (eg_call (ok_cell_number T) (rm.mono (by decide)) T.m_cell_number T.F_cell_number.kp T.b_cell_number (ea_cons (ee_sub (ee_var (i := 0) rfl) (ee_var (i := 5) rfl) (fun m => by walk_at "sd")) ea_nil) (by walk_at "call cell_number")) (ee_var (i := 2) rfl) (by walk_at "bd")) (fun m => by walk_at "sd")) (by walk_at "bd")) (ee_slice (ee_var (i := 0) rfl) (eo_some (ee_bin (ee_var (i := 5) rfl) ee_int (by walk_at "bd"))) eo_none (fun m => by walk_at "sl")) (by walk_at "bd")) (C_eq hv)) ea_nil) (.mk hok (by omega) (by omega))) (show _ = N0 by rw [hd]; rfl)) ?_)
          rw [hd] at hp
          exact wss_one (ws_retE (ee_if (et_cmp (ee_var (i := 6) rfl) ee_non (by walk_at "cd")) (fun _ => ee_non) (fun h => by cases h)) hp)
        · refine wss_cons (ws_setE (i := 6) sc_fallen_in_text.nd (EE.is (eg_call (ok_signs_in T) (rm.mono (by decide)) T.m_signs_in T.F_signs_in.kp T.b_signs_in (ea_cons (EE.is (ee_bin (ee_bin (ee_slice (ee_var (i := 0) rfl) eo_none (eo_some (ee_var (i := 5) rfl)) (fun m => by walk_at "sl")) (ee_sub (ee_gstr T.c_CELLS) (ee_bin (eg_call (ok_cell_number T) (rm.mono (by decide)) T.m_cell_number T.F_cell_number.kp T.b_cell_number (ea_cons (ee_sub (ee_var (i := 0) rfl) (ee_var (i := 5) rfl) (fun m => by walk_at "sd")) ea_nil) (by walk_at "call cell_number")) (ee_var (i := 2) rfl) (by walk_at "bd")) (fun m => by walk_at "sd")) (by walk_at "bd")) (ee_slice (ee_var (i := 0) rfl) (eo_some (ee_bin (ee_var (i := 5) rfl) ee_int (by walk_at "bd"))) eo_none (fun m => by walk_at "sl")) (by walk_at "bd")) (C_eq hv)) ea_nil) (.mk hok (by omega) (by omega))) (show _ = S t by rw [hd]; rfl)) ?_)
          rw [hd] at hp
          refine wss_one (ws_retE (ee_if (et_cmp (ee_var (i := 6) rfl) ee_non (by walk_at "cd")) (fun h => by cases h) (fun _ => EE.is (ee_tup (eap_cons (ee_var (i := 6) rfl) (eap_cons (ee_var (i := 5) rfl) eap_nil))) ?_)) hp)
          show (Tp [tx t, .int at_] : SD) = Tp [tx t, .int (at_.toNat : Nat)]
          rw [Int.toNat_of_nonneg hr.1]
theorem ok_fallen_in_sums (T : Tx K mg) : FnG P w K mg base CX0 5 T.a_fallen_in_sums T.d_fallen_in_sums ["cells"] (SpD K (pureF R_fallen_in_sums)) := by
  refine fnD_ok T.F_fallen_in_sums sc_fallen_in_sums (fun xs m Pp ⟨d, h, _⟩ => by cases h; rfl) (fun cdv A outer s H E rm xs m Pp ⟨d, hR, hp⟩ => ?_)
  cases hR with | @mk ws ho hl =>
  rcases hd : dec ws with _ | t
  · refine wss_cons (ws_setE (i := 1) sc_fallen_in_sums.nd (EE.is (eg_call (ok_signs_in T) (rm.mono (by decide)) T.m_signs_in T.F_signs_in.kp T.b_signs_in (ea_cons (ee_var (i := 0) rfl) ea_nil) (by walk_at "call signs_in")) (show _ = N0 by rw [hd]; rfl)) ?_)
    refine wss_cons (ws_ife (et_cmp (ee_var (i := 1) rfl) ee_non (by walk_at "cd")) (fun _ => ?_) fun h => by cases h)
    have e : fs ws = none := by unfold fs; rw [hd]
    rw [e] at hp
    exact wss_one (ws_retE ee_non hp)
  · have ht := dec_okT hd
    have htl := dec_len (by omega) hd
    have hsl := sealT_length htl
    refine wss_cons (ws_setE (i := 1) sc_fallen_in_sums.nd (EE.is (eg_call (ok_signs_in T) (rm.mono (by decide)) T.m_signs_in T.F_signs_in.kp T.b_signs_in (ea_cons (ee_var (i := 0) rfl) ea_nil) (by walk_at "call signs_in")) (show _ = S t by rw [hd]; rfl)) ?_)
    refine wss_cons (ws_ife (et_cmp (ee_var (i := 1) rfl) ee_non (by walk_at "cd")) (fun h => by cases h) fun _ => wss_nil ?_)
    refine wss_cons (ws_setE (i := 2) sc_fallen_in_sums.nd (eg_call (ok_sealed_page T) (rm.mono (by decide)) T.m_sealed_page T.F_sealed_page.kp T.b_sealed_page (ea_cons (ee_var (i := 1) rfl) ea_nil) (by walk_at "call sealed_page")) ?_)
    have hm : ∀ a, a ∈ (List.range 30).map (226 + ·) → a < 256 := fun a ha => by
      obtain ⟨i, hi, rfl⟩ := List.mem_map.mp ha
      rw [List.mem_range] at hi
      omega
    refine wss_cons (ws_setLcf (i := 3) ((List.range 30).map (226 + ·)) (fun a => I (a : Nat)) (fun p => decide (w0 ws p ≠ w0 (sealT t) p)) (fun a => PyData.int (a : Nat)) [("at", 4)] rfl sc_fallen_in_sums.nd (EI.is (ei_range2 (ee_gint T.c_CELLS_OF_TEXT) (ee_callB (ea_cons (ee_var (i := 0) rfl) ea_nil) (fun m => by walk_at "ca") T.m_len bo_len) (by walk_at "rg") T.m_range) (rng_unl (by rw [hl]; rfl) rfl)) (by walk_at "sz") (fun a ha s H Ce cl fp => ET.is (et_cmp (ee_sub (ee_var (i := 0) rfl) (ee_var (i := 4) rfl) (fun m => by walk_at "sd")) (ee_sub (ee_var (i := 2) rfl) (ee_var (i := 4) rfl) (fun m => by walk_at "sd")) (by walk_at "cd")) (by walk_at "fl")) (fun a ha hp s H Ce cl fp => (ee_var (i := 4) rfl)) (fun _ _ _ _ _ _ _ _ _ p => wg_name p sc_fallen_in_sums.nd) (blkOk_by (by rfl)) ?_)
    have hu : ((List.range 30).map (226 + ·)).filter (fun p => decide (w0 ws p ≠ w0 (sealT t) p)) = unl ws (sealT t) 226 30 := rfl
    rw [hu]
    rcases hq : unl ws (sealT t) 226 30 with _ | ⟨p, _ | ⟨q, r⟩⟩
    · have e : fs ws = none := by unfold fs; rw [hd]; dsimp only; rw [hq]
      rw [e] at hp
      refine wss_cons (ws_ife (k := true) (ET.is (et_w (ew_or (l := true) (et_cmp (ee_callB (ea_cons (ee_var (i := 3) rfl) ea_nil) (fun m => by walk_at "ca") T.m_len bo_len) ee_int (by walk_at "cd")) (fun hk => absurd hk (by simp <;> omega)))) (by simp)) (fun _ => wss_one (ws_retE ee_non hp)) fun h => by cases h)
    · have hp2 := (unl_mem hq).1.1
      refine wss_cons (ws_ife (et_w (ew_or (et_cmp (ee_callB (ea_cons (ee_var (i := 3) rfl) ea_nil) (fun m => by walk_at "ca") T.m_len bo_len) ee_int (by walk_at "cd")) (fun hk => (ew_or1 (et_cmp (eg_call (ok_cell_number T) (rm.mono (by decide)) T.m_cell_number T.F_cell_number.kp T.b_cell_number (ea_cons (ee_sub (ee_var (i := 0) rfl) (ee_sub (ee_var (i := 3) rfl) ee_int (fun m => by walk_at "sd")) (fun m => by walk_at "sd")) ea_nil) (by walk_at "call cell_number")) (eg_call (ok_cell_number T) (rm.mono (by decide)) T.m_cell_number T.F_cell_number.kp T.b_cell_number (ea_cons (ee_sub (ee_var (i := 2) rfl) (ee_sub (ee_var (i := 3) rfl) ee_int (fun m => by walk_at "sd")) (fun m => by walk_at "sd")) ea_nil) (by walk_at "call cell_number")) (by walk_at "cd")))))) (fun h => ?_) fun h => wss_nil ?_)
      · have e : fs ws = none := by
          unfold fs
          rw [hd]
          dsimp only
          rw [hq]
          dsimp only
          rw [if_pos (by simpa using h)]
        rw [e] at hp
        exact wss_one (ws_retE ee_non hp)
      · have e : fs ws = some (t, p) := by
          unfold fs
          rw [hd]
          dsimp only
          rw [hq]
          dsimp only
          rw [if_neg (by simpa using h)]
        rw [e] at hp
        exact wss_one (ws_retE (ee_tup (eap_cons (ee_var (i := 1) rfl) (eap_cons (ee_sub (ee_var (i := 3) rfl) ee_int (fun m => by walk_at "sd")) eap_nil))) hp)
    · have e : fs ws = none := by unfold fs; rw [hd]; dsimp only; rw [hq]
      rw [e] at hp
      refine wss_cons (ws_ife (k := true) (ET.is (et_w (ew_or (l := true) (et_cmp (ee_callB (ea_cons (ee_var (i := 3) rfl) ea_nil) (fun m => by walk_at "ca") T.m_len bo_len) ee_int (by walk_at "cd")) (fun hk => absurd hk (by simp <;> omega)))) (by simp)) (fun _ => wss_one (ws_retE ee_non hp)) fun h => by cases h)
theorem ok_opened (T : Tx K mg) : FnG P w K mg base CX0 6 T.a_opened T.d_opened ["cells"] (SpD K (pureF R_opened)) := by
  refine fnD_ok T.F_opened sc_opened (fun xs m Pp ⟨d, h, _⟩ => by cases h; rfl) (fun cdv A outer s H E rm xs m Pp ⟨d, hR, hp⟩ => ?_)
  cases hR with | @mk ws ho hl =>
  refine wss_cons (ws_ife (et_not (et_val (eg_call (ok_is_page T) (rm.mono (by decide)) T.m_is_page T.F_is_page.kp T.b_is_page (ea_cons (ee_var (i := 0) rfl) ea_nil) (by walk_at "call is_page")))) (fun h => by cases h) fun _ => wss_nil ?_)
  have er : rep ((ws.length : Nat) : Int).toNat [15] = List.replicate 256 15 := by rw [rep_one, Int.toNat_natCast, hl]
  by_cases hE : ws = List.replicate 256 15
  · have e : po ws = .tuple [tx nE] := if_pos hE
    rw [e] at hp
    refine wss_cons (ws_ife (k := true) (ET.is (et_cmp (ee_var (i := 0) rfl) (ee_bin (EE.is (ee_gstr T.c_FALLEN) (show S [102] = C [15] from rfl)) (ee_callB (ea_cons (ee_var (i := 0) rfl) ea_nil) (fun m => by walk_at "ca") T.m_len bo_len) (by walk_at "bd")) (by walk_at "cd")) (by rw [er]; exact decide_eq_true hE)) (fun _ => wss_one (ws_retE (ee_tup (eap_cons (ee_gstr T.c_EMPTY) eap_nil)) hp)) fun h => by cases h)
  · refine wss_cons (ws_ife (k := false) (ET.is (et_cmp (ee_var (i := 0) rfl) (ee_bin (EE.is (ee_gstr T.c_FALLEN) (show S [102] = C [15] from rfl)) (ee_callB (ea_cons (ee_var (i := 0) rfl) ea_nil) (fun m => by walk_at "ca") T.m_len bo_len) (by walk_at "bd")) (by walk_at "cd")) (by rw [er]; exact decide_eq_false hE)) (fun h => by cases h) fun _ => wss_nil ?_)
    rcases hd : dec ws with _ | t
    · have e : po ws = (match (match ft ws with | some r => some r | none => fs ws) with | none => .tuple [tx nT] | some (t, p) => .tuple [tx nM, tx t, .int p]) := by
        unfold po
        rw [if_neg hE, hd]
        dsimp only
        rw [if_neg Bool.false_ne_true]
        try rfl
      rw [e] at hp
      refine wss_cons (ws_setE (i := 1) sc_opened.nd (EE.is (eg_call (ok_signs_in T) (rm.mono (by decide)) T.m_signs_in T.F_signs_in.kp T.b_signs_in (ea_cons (ee_var (i := 0) rfl) ea_nil) (by walk_at "call signs_in")) (show _ = N0 by rw [hd]; rfl)) ?_)
      refine wss_cons (ws_ife (k := false) (ET.is (et_w (ew_and (l := true) (et_cmp (ee_var (i := 1) rfl) ee_non (by walk_at "cd")) (fun hk => by cases hk))) rfl) (fun h => by cases h) fun _ => wss_nil ?_)
      rcases hf : ft ws with _ | ⟨t, p⟩
      · rcases hs : fs ws with _ | ⟨t, p⟩
        · rw [hf, hs] at hp
          refine wss_cons (ws_setE (i := 2) sc_opened.nd (EE.is (ee_orT (eg_call (ok_fallen_in_text T) (rm.mono (by decide)) T.m_fallen_in_text T.F_fallen_in_text.kp T.b_fallen_in_text (ea_cons (ee_var (i := 0) rfl) ea_nil) (by walk_at "call fallen_in_text")) tru_ftP (fun _ => ee_one (eg_call (ok_fallen_in_sums T) (rm.mono (by decide)) T.m_fallen_in_sums T.F_fallen_in_sums.kp T.b_fallen_in_sums (ea_cons (ee_var (i := 0) rfl) ea_nil) (by walk_at "call fallen_in_sums")))) (show _ = N0 by rw [hf, hs]; rfl)) ?_)
          exact wss_one (ws_retE (ee_if (et_cmp (ee_var (i := 2) rfl) ee_non (by walk_at "cd")) (fun _ => (ee_tup (eap_cons (ee_gstr T.c_TORN) eap_nil))) (fun h => by cases h)) hp)
        · rw [hf, hs] at hp
          refine wss_cons (ws_setE (i := 2) sc_opened.nd (EE.is (ee_orT (eg_call (ok_fallen_in_text T) (rm.mono (by decide)) T.m_fallen_in_text T.F_fallen_in_text.kp T.b_fallen_in_text (ea_cons (ee_var (i := 0) rfl) ea_nil) (by walk_at "call fallen_in_text")) tru_ftP (fun _ => ee_one (eg_call (ok_fallen_in_sums T) (rm.mono (by decide)) T.m_fallen_in_sums T.F_fallen_in_sums.kp T.b_fallen_in_sums (ea_cons (ee_var (i := 0) rfl) ea_nil) (by walk_at "call fallen_in_sums")))) (show _ = Tp [tx t, .int p] by rw [hf, hs]; rfl)) ?_)
          exact wss_one (ws_retE (ee_if (et_cmp (ee_var (i := 2) rfl) ee_non (by walk_at "cd")) (fun h => by cases h) (fun _ => ee_tupX (ea_cons (ee_gstr T.c_MENDED) (ea_star (ee_var (i := 2) rfl) ea_nil)) rfl)) hp)
      · rw [hf] at hp
        refine wss_cons (ws_setE (i := 2) sc_opened.nd (EE.is (ee_orT (eg_call (ok_fallen_in_text T) (rm.mono (by decide)) T.m_fallen_in_text T.F_fallen_in_text.kp T.b_fallen_in_text (ea_cons (ee_var (i := 0) rfl) ea_nil) (by walk_at "call fallen_in_text")) tru_ftP (fun _ => ee_one (eg_call (ok_fallen_in_sums T) (rm.mono (by decide)) T.m_fallen_in_sums T.F_fallen_in_sums.kp T.b_fallen_in_sums (ea_cons (ee_var (i := 0) rfl) ea_nil) (by walk_at "call fallen_in_sums")))) (show _ = Tp [tx t, .int p] by rw [hf]; rfl)) ?_)
        exact wss_one (ws_retE (ee_if (et_cmp (ee_var (i := 2) rfl) ee_non (by walk_at "cd")) (fun h => by cases h) (fun _ => ee_tupX (ea_cons (ee_gstr T.c_MENDED) (ea_star (ee_var (i := 2) rfl) ea_nil)) rfl)) hp)
    · have ht := dec_okT hd
      have htl := dec_len (by omega) hd
      have hsl := sealT_length htl
      refine wss_cons (ws_setE (i := 1) sc_opened.nd (EE.is (eg_call (ok_signs_in T) (rm.mono (by decide)) T.m_signs_in T.F_signs_in.kp T.b_signs_in (ea_cons (ee_var (i := 0) rfl) ea_nil) (by walk_at "call signs_in")) (show _ = S t by rw [hd]; rfl)) ?_)
      by_cases hs : sealT t = ws
      · have e : po ws = .tuple [tx nW, tx t] := by
          unfold po
          rw [if_neg hE, hd]
          dsimp only
          rw [if_pos (decide_eq_true hs)]
          rfl
        rw [e] at hp
        refine wss_cons (ws_ife (k := true) (ET.is (et_w (ew_and (et_cmp (ee_var (i := 1) rfl) ee_non (by walk_at "cd")) (fun hk => (ew_and1 (et_cmp (eg_call (ok_sealed_page T) (rm.mono (by decide)) T.m_sealed_page T.F_sealed_page.kp T.b_sealed_page (ea_cons (ee_var (i := 1) rfl) ea_nil) (by walk_at "call sealed_page")) (ee_var (i := 0) rfl) (by walk_at "cd")))))) (by rw [decide_eq_true hs]; rfl)) (fun _ => wss_one (ws_retE (ee_tup (eap_cons (ee_gstr T.c_WHOLE) (eap_cons (ee_var (i := 1) rfl) eap_nil))) hp)) fun h => by cases h)
      · have e : po ws = (match (match ft ws with | some r => some r | none => fs ws) with | none => .tuple [tx nT] | some (t, p) => .tuple [tx nM, tx t, .int p]) := by
          unfold po
          rw [if_neg hE, hd]
          dsimp only
          rw [if_neg (by rw [decide_eq_true_eq]; exact hs)]
          try rfl
        rw [e] at hp
        refine wss_cons (ws_ife (k := false) (ET.is (et_w (ew_and (et_cmp (ee_var (i := 1) rfl) ee_non (by walk_at "cd")) (fun hk => (ew_and1 (et_cmp (eg_call (ok_sealed_page T) (rm.mono (by decide)) T.m_sealed_page T.F_sealed_page.kp T.b_sealed_page (ea_cons (ee_var (i := 1) rfl) ea_nil) (by walk_at "call sealed_page")) (ee_var (i := 0) rfl) (by walk_at "cd")))))) (by rw [decide_eq_false hs]; rfl)) (fun h => by cases h) fun _ => wss_nil ?_)
        rcases hf : ft ws with _ | ⟨t2, p⟩
        · rcases hs : fs ws with _ | ⟨t2, p⟩
          · rw [hf, hs] at hp
            refine wss_cons (ws_setE (i := 2) sc_opened.nd (EE.is (ee_orT (eg_call (ok_fallen_in_text T) (rm.mono (by decide)) T.m_fallen_in_text T.F_fallen_in_text.kp T.b_fallen_in_text (ea_cons (ee_var (i := 0) rfl) ea_nil) (by walk_at "call fallen_in_text")) tru_ftP (fun _ => ee_one (eg_call (ok_fallen_in_sums T) (rm.mono (by decide)) T.m_fallen_in_sums T.F_fallen_in_sums.kp T.b_fallen_in_sums (ea_cons (ee_var (i := 0) rfl) ea_nil) (by walk_at "call fallen_in_sums")))) (show _ = N0 by rw [hf, hs]; rfl)) ?_)
            exact wss_one (ws_retE (ee_if (et_cmp (ee_var (i := 2) rfl) ee_non (by walk_at "cd")) (fun _ => (ee_tup (eap_cons (ee_gstr T.c_TORN) eap_nil))) (fun h => by cases h)) hp)
          · rw [hf, hs] at hp
            refine wss_cons (ws_setE (i := 2) sc_opened.nd (EE.is (ee_orT (eg_call (ok_fallen_in_text T) (rm.mono (by decide)) T.m_fallen_in_text T.F_fallen_in_text.kp T.b_fallen_in_text (ea_cons (ee_var (i := 0) rfl) ea_nil) (by walk_at "call fallen_in_text")) tru_ftP (fun _ => ee_one (eg_call (ok_fallen_in_sums T) (rm.mono (by decide)) T.m_fallen_in_sums T.F_fallen_in_sums.kp T.b_fallen_in_sums (ea_cons (ee_var (i := 0) rfl) ea_nil) (by walk_at "call fallen_in_sums")))) (show _ = Tp [tx t2, .int p] by rw [hf, hs]; rfl)) ?_)
            exact wss_one (ws_retE (ee_if (et_cmp (ee_var (i := 2) rfl) ee_non (by walk_at "cd")) (fun h => by cases h) (fun _ => ee_tupX (ea_cons (ee_gstr T.c_MENDED) (ea_star (ee_var (i := 2) rfl) ea_nil)) rfl)) hp)
        · rw [hf] at hp
          refine wss_cons (ws_setE (i := 2) sc_opened.nd (EE.is (ee_orT (eg_call (ok_fallen_in_text T) (rm.mono (by decide)) T.m_fallen_in_text T.F_fallen_in_text.kp T.b_fallen_in_text (ea_cons (ee_var (i := 0) rfl) ea_nil) (by walk_at "call fallen_in_text")) tru_ftP (fun _ => ee_one (eg_call (ok_fallen_in_sums T) (rm.mono (by decide)) T.m_fallen_in_sums T.F_fallen_in_sums.kp T.b_fallen_in_sums (ea_cons (ee_var (i := 0) rfl) ea_nil) (by walk_at "call fallen_in_sums")))) (show _ = Tp [tx t2, .int p] by rw [hf]; rfl)) ?_)
          exact wss_one (ws_retE (ee_if (et_cmp (ee_var (i := 2) rfl) ee_non (by walk_at "cd")) (fun h => by cases h) (fun _ => ee_tupX (ea_cons (ee_gstr T.c_MENDED) (ea_star (ee_var (i := 2) rfl) ea_nil)) rfl)) hp)
end
end K08
end W9
namespace W9
namespace K08
open PySem PySem.Spec PyProof.Rows L2
local macro_rules | `(tactic| walk_at "lt") => `(tactic| first | assumption | exact w0_lt (by assumption) _ | exact w0_lt (sealT_ok _) _ | omega | exact Ok.get (by assumption) (by assumption) | exact (by assumption : Ok _) _ (by assumption))
local macro_rules | `(tactic| walk_at "sz") => `(tactic| first | assumption | omega | decide | (simp only [List.length_append, List.length_map]; omega) | (simp only [List.length_append, List.length_take, List.length_drop, List.length_map, List.length_replicate, List.length_range, List.length_cons, List.length_nil, digs_length, tw_length, enc_length, rep_length, tailOf_length]; omega))
local macro_rules | `(tactic| walk_at "ok") => `(tactic| first | assumption | exact Ok.tk _ (by assumption) | exact Ok.dp _ (by assumption) | exact Ok.tk _ (Ok.dp _ (by assumption)) | exact digs_ok _ _ | exact cmpl_ok | exact cellsOf_ok _ | exact sealT_ok _ | exact cut_ok (by assumption) _ _ | exact rep_ok (by decide) | exact Ok.nil | exact Ok.one (w0_lt (by assumption) _) | exact Ok.one (w0_lt (sealT_ok _) _) | exact Ok.one (by decide) | exact Ok.app (Ok.one (by decide)) (Ok.one (by decide)))
local macro_rules | `(tactic| walk_at "bd") => `(tactic| first | exact bd_add | exact bd_sub | exact bd_mul (by omega) | exact bd_mul (by have := rng_of (by assumption); omega) | exact bd_mod (by omega) | exact bd_pow (by omega) | exact bd_powX (by decide +kernel) | exact bd_mod (by decide +kernel) | exact bd_mulB | exact bd_mod (by have := of_decide_eq_false (by assumption); omega) | exact bd_div (by omega) | exact bd_addC (by walk_at "sz") | exact bd_mulC (by walk_at "sz") | exact bd_mulC ⟨by decide, by decide, by assumption⟩ | exact bd_addS (by walk_at "sz") | exact bd_catL (by walk_at "sz"))
local macro_rules | `(tactic| walk_at "cd") => `(tactic| first | exact cd_lt | exact cd_ltC (by walk_at "lt") (by walk_at "lt") | exact cd_le | exact cd_gt | exact cd_ge | exact cd_eq | exact cd_ne | exact cd_eqC (by walk_at "ok") (by walk_at "ok") | exact cd_neC (by walk_at "ok") (by walk_at "ok") | exact cd_inHex (by walk_at "lt") | exact cd_inS | exact cd_isN | exact cd_notN | exact cd_eqS | exact cd_neS)
local macro_rules | `(tactic| walk_at "md") => `(tactic| first | exact md_hex (by walk_at "lt") | exact md_joinC1 (by walk_at "sz") | exact md_joinCf (f := digs 2) (k := 2) (fun _ _ => by rw [digs_length]; decide) (by walk_at "sz") | exact md_joinS (by walk_at "sz") | exact md_index (low_occ _ (by omega) (by omega) (by omega)) | exact md_index (high_occ _ (by omega) (by omega) (by omega)))
local macro_rules | `(tactic| walk_at "sd") => `(tactic| first | exact sd_hexM | exact sd_hexT (by walk_at "lt") | exact sd_C (by assumption) (by walk_at "sz") | exact sd_C (w0_get (by omega)) (by walk_at "sz") | exact sd_Ci (by have := rng_of (by assumption); omega) (w0_get (by have := rng_of (by assumption); omega)) (by walk_at "sz") | exact sd_Ci (by omega) (w0_get (by omega)) (by walk_at "sz") | exact sd_C (w0_get (Nat.lt_of_lt_of_le ((by assumption : ∀ a, a ∈ _ → a < 256) _ (by assumption)) (Nat.le_of_eq (Eq.symm (by assumption))))) (by walk_at "sz") | exact sd_hexN (by omega) (by omega) | exact sd_ints (l := [2147483647, 2147483629, 2147483587, 2147483579, 2147483563]) (by omega) (by simp only [List.length_cons, List.length_nil]; omega) | exact sd_lst rfl | exact sd_tup rfl | exact sd_low (by omega) | exact sd_high (by omega))
local macro_rules | `(tactic| walk_at "sl") => `(tactic| first | exact sl_C0n (b := 226) (by walk_at "sz") | exact sl_C0n (b := 226) (by walk_at "sz") | exact sl_Cn0 (a := 226) (by walk_at "sz") | exact sl_C (by walk_at "sz") | exact sl_L)
local macro_rules | `(tactic| walk_at "rg") => `(tactic| first | exact rg_pairs | omega)
local macro_rules | `(tactic| walk_at "ca") => `(tactic| first | exact ca_isiStr | exact ca_lenC (by walk_at "sz") | exact ca_allm rfl | exact ca_lenS (by walk_at "sz") | exact ca_lenL | exact ca_lenT | exact ca_tupL | exact ca_ord | exact ca_int | exact ca_intB | exact ca_abs | exact ca_max2 rfl | exact ca_min2 rfl | exact ca_listS rfl (by walk_at "sz"))
local macro_rules | `(tactic| walk_at "call cell_number") => `(tactic| exact .mk (by walk_at "lt"))
local macro_rules | `(tactic| walk_at "call number_in_cells") => `(tactic| exact .mk (by walk_at "ok"))
local macro_rules | `(tactic| walk_at "call cells_of_number") => `(tactic| first | exact .mk (k := 2) (by decide) | exact .mk (by walk_at "sz"))
local macro_rules | `(tactic| walk_at "call contrary") => `(tactic| exact .mk (by walk_at "ok") (by walk_at "sz"))
local macro_rules | `(tactic| walk_at "call sums_of") => `(tactic| exact .mk (by walk_at "ok") (by walk_at "sz"))
local macro_rules | `(tactic| walk_at "call sum_cells") => `(tactic| exact .mk)
local macro_rules | `(tactic| walk_at "call sign_number") => `(tactic| first | exact .mk (by assumption) | exact .mk ((by assumption : OkT _) _ (by assumption)))
local macro_rules | `(tactic| walk_at "call sign_of") => `(tactic| exact .mk (by assumption))
local macro_rules | `(tactic| walk_at "call is_page_text") => `(tactic| exact .mk (by assumption) (by assumption))
local macro_rules | `(tactic| walk_at "call text_cells") => `(tactic| exact .mk (by assumption) (by assumption))
local macro_rules | `(tactic| walk_at "fl") => `(tactic| first | rfl | exact int_ne255 | simp)
local macro_rules | `(tactic| walk_at "call signs_in") => `(tactic| exact .mk (by walk_at "ok") (by walk_at "sz") (by walk_at "sz"))
local macro_rules | `(tactic| walk_at "call sealed_page") => `(tactic| exact .mk (by assumption) (by assumption))
local macro_rules | `(tactic| walk_at "call told_sums") => `(tactic| exact .mk (by walk_at "ok") (by walk_at "sz"))
local macro_rules | `(tactic| walk_at "call fallen_in_text") => `(tactic| exact .mk (by walk_at "ok") (by walk_at "sz"))
local macro_rules | `(tactic| walk_at "call fallen_in_sums") => `(tactic| exact .mk (by walk_at "ok") (by walk_at "sz"))
local macro_rules | `(tactic| walk_at "call are_cells") => `(tactic| exact .mk (by walk_at "ok") (by walk_at "sz"))
local macro_rules | `(tactic| walk_at "call is_page") => `(tactic| exact .mk (by walk_at "ok") (by walk_at "sz"))
local macro_rules | `(tactic| walk_at "call _law_code_worth") => `(tactic| exact .mk (by walk_at "lt"))
local macro_rules | `(tactic| walk_at "call _law_code_number") => `(tactic| exact .mk (by walk_at "ok"))
local macro_rules | `(tactic| walk_at "call _law_code_figures") => `(tactic| first | exact .mk (k := 2) (by decide) | exact .mk (by walk_at "sz"))
local macro_rules | `(tactic| walk_at "call _law_code_turned") => `(tactic| exact .mk (by walk_at "ok") (by walk_at "sz"))
local macro_rules | `(tactic| walk_at "call _law_code_sums") => `(tactic| exact .mk (by walk_at "ok") (by walk_at "sz"))
local macro_rules | `(tactic| walk_at "call _law_code_tail") => `(tactic| exact .mk (by walk_at "ok") (by walk_at "sz"))
local macro_rules | `(tactic| walk_at "call _law_code_signs") => `(tactic| exact .mk)
local macro_rules | `(tactic| walk_at "call _law_code_unlike") => `(tactic| exact .mk (by walk_at "ok") (by walk_at "sz") (by walk_at "ok") (by walk_at "sz"))
local macro_rules | `(tactic| walk_at "call _law_code_fallen") => `(tactic| exact .mk (by walk_at "ok") (by walk_at "sz") (by walk_at "ok") (by walk_at "sz"))
local macro_rules | `(tactic| walk_at "call _law_code_sealed") => `(tactic| exact .mk (by assumption) (by assumption))
local macro_rules | `(tactic| walk_at "call _law_code_text") => `(tactic| exact .mk (by walk_at "ok") (by walk_at "sz"))
local macro_rules | `(tactic| walk_at "call _law_code_told") => `(tactic| exact .mk (by walk_at "ok") (by walk_at "sz"))
local macro_rules | `(tactic| walk_at "call _law_code_lifted") => `(tactic| exact .mk (by walk_at "ok") (by walk_at "sz"))
local macro_rules | `(tactic| walk_at "call _law_code_opened") => `(tactic| exact .mk (by walk_at "ok") (by walk_at "sz"))
local macro_rules | `(tactic| walk_at "rep") => `(tactic| assumption)
local macro_rules | `(tactic| walk_at "call sums") => `(tactic| exact .mk (by walk_at "ok") (by walk_at "sz"))
local macro_rules | `(tactic| walk_at "call opened") => `(tactic| exact .mk (by walk_at "ok") (by walk_at "sz"))
local macro_rules | `(tactic| walk_at "call _law_cells") => `(tactic| exact .mk)

inductive R__law_code_worth : List SD → SD → Prop
  | mk {w : Nat} (h : w < 16) : R__law_code_worth [C [w]] (I w)
inductive R__law_code_sums : List SD → SD → Prop
  | mk {ws : List Nat} (h : Ok ws) (hl : ws.length ≤ 1000) : R__law_code_sums [C ws] (Tp [.int (s0 ws), .int (s1 ws), .int (s2 ws)])
inductive R__law_code_figures : List SD → SD → Prop
  | mk {n k : Nat} (h : k ≤ 1000) : R__law_code_figures [I n, I k] (C (digs k n))
inductive R__law_code_number : List SD → SD → Prop
  | mk {ws : List Nat} (h : Ok ws) : R__law_code_number [C ws] (I (num ws))
inductive R__law_code_turned : List SD → SD → Prop
  | mk {ws : List Nat} (h : Ok ws) (hl : ws.length ≤ 1000) : R__law_code_turned [C ws] (C (cmpl ws))
inductive R__law_code_tail : List SD → SD → Prop
  | mk {ws : List Nat} (h : Ok ws) (hl : ws.length ≤ 1000) : R__law_code_tail [C ws] (C (tailOf (s0 ws) (s1 ws) (s2 ws)))
inductive R__law_code_signs : List SD → SD → Prop
  | mk : R__law_code_signs [] (S (lowS ++ highS))
inductive R__law_code_sealed : List SD → SD → Prop
  | mk {t : List Nat} (h : OkT t) (hl : t.length ≤ 113) : R__law_code_sealed [S t] (C (sealT t))
inductive F__law_code_by_numbers : FT
  | mk {m : MS} {P : SD → MS → Prop} (h : ∀ p, p ∉ ad m → P (.raw (.ref p)) ((p, .ho (.dK kn)) :: m)) : F__law_code_by_numbers [] m P
inductive R__law_code_text : List SD → SD → Prop
  | mk {ws : List Nat} (h : Ok ws) (hl : ws.length = 226) : R__law_code_text [C ws] (.py (optT (dec ws)))
inductive R__law_code_unlike : List SD → SD → Prop
  | mk {a b : List Nat} (h : Ok a) (hl : a.length = 256) (h2 : Ok b) (hl2 : b.length = 256) : R__law_code_unlike [C a, C b] (Ls ((unl a b 0 256).map fun p => .int (p : Nat)))
inductive R__law_code_fallen : List SD → SD → Prop
  | mk {a b : List Nat} (h : Ok a) (hl : a.length = 256) (h2 : Ok b) (hl2 : b.length = 256) : R__law_code_fallen [C a, C b] (.py (falP (fal a b)))
section
variable {P : Program} {w : World} {K : PySem.W.Frag} {mg : Str → Option Value} {base : Heap}
theorem ok__law_code_worth (T : Tx K mg) : FnG P w K mg base CX0 1 T.a__law_code_worth T.d__law_code_worth ["sign"] (SpD K (pureF R__law_code_worth)) := by
  refine fnD_ok T.F__law_code_worth sc__law_code_worth (fun xs m Pp ⟨d, h, _⟩ => by cases h; rfl) (fun cdv A outer s H E rm xs m Pp ⟨d, hR, hp⟩ => ?_)
  cases hR with | mk hw =>
  exact wss_one (ws_retE (ee_meth PySem.F.plainAttrs_str PySem.F.slot_str_index PySem.F.type_str_index (ee_strS (l := [48, 49, 50, 51, 52, 53, 54, 55, 56, 57, 97, 98, 99, 100, 101, 102])) (ea_cons (ee_var (i := 0) rfl) ea_nil) (fun m => by walk_at "md")) hp)
theorem ok__law_code_number (T : Tx K mg) : FnG P w K mg base CX0 2 T.a__law_code_number T.d__law_code_number ["cells"] (SpD K (pureF R__law_code_number)) := by
  refine fnD_ok T.F__law_code_number sc__law_code_number (fun xs m Pp ⟨d, h, _⟩ => by cases h; rfl) (fun cdv A outer s H E rm xs m Pp ⟨d, hR, hp⟩ => ?_)
  cases hR with | @mk ws ho =>
  refine wss_cons (ws_setE (i := 1) sc__law_code_number.nd ee_int ?_)
  refine wss_cons (ws_for (js := [2]) (((ei_cells (ee_var (i := 0) rfl))).to ⟨fun i ds' m' => ∃ y, ds' = [some (C ws), some (I (num (ws.take i))), y] ∧ m' = m, ⟨_, rfl, rfl⟩, ?_, ?_⟩))
  · rintro i x ds' m' hx ⟨y, rfl, rfl⟩
    obtain ⟨w, hw, rfl⟩ := map_get hx
    refine wg_name ?_ sc__law_code_number.nd
    refine wss_one (ws_setE (i := 1) sc__law_code_number.nd (EE.is (ee_bin (ee_bin ee_int (ee_var (i := 1) rfl) (by walk_at "bd")) (eg_call (ok__law_code_worth T) (rm.mono (by decide)) T.m__law_code_worth T.F__law_code_worth.kp T.b__law_code_worth (ea_cons (ee_var (i := 2) rfl) ea_nil) (by walk_at "call _law_code_worth")) (by walk_at "bd")) (I_eq (b := num (ws.take (i + 1))) ?_)) ⟨_, rfl, rfl⟩)
    rw [List.take_add_one, hw]
    show _ = ((num (ws.take i ++ [w]) : Nat) : Int)
    rw [num_app]
    omega
  · rintro ds' m' ⟨y, rfl, rfl⟩
    rw [List.length_map, List.take_length]
    exact wss_one (ws_retE (ee_var (i := 1) rfl) hp)
theorem ok__law_code_figures (T : Tx K mg) : FnG P w K mg base CX0 1 T.a__law_code_figures T.d__law_code_figures ["number", "many"] (SpD K (pureF R__law_code_figures)) := by
  refine fnD_ok T.F__law_code_figures sc__law_code_figures (fun xs m Pp ⟨d, h, _⟩ => by cases h; rfl) (fun cdv A outer s H E rm xs m Pp ⟨d, hR, hp⟩ => ?_)
  cases hR with | @mk n k hk =>
  refine wss_cons (ws_setE (i := 2) sc__law_code_figures.nd (EE.is (ee_strS (l := [])) (show S [] = C [] from rfl)) ?_)
  refine wss_cons (ws_for (js := [3]) (((ei_range1 (ee_var (i := 1) rfl) (by walk_at "rg") T.m_range)).to ⟨fun i ds' m' => ∃ y, ds' = [some (I (n / 16 ^ i : Nat)), some (I k), some (C (digs i n)), y] ∧ m' = m, ⟨_, by rw [Nat.pow_zero, Nat.div_one]; rfl, rfl⟩, ?_, ?_⟩))
  · rintro i x ds' m' hx ⟨y, rfl, rfl⟩
    have hi := get_lt hx
    rw [List.length_map, List.length_range, Int.toNat_natCast] at hi
    refine wg_name ?_ sc__law_code_figures.nd
    refine wss_cons (ws_setE (i := 2) sc__law_code_figures.nd (EE.is (ee_bin (ee_sub (ee_strS (l := [48, 49, 50, 51, 52, 53, 54, 55, 56, 57, 97, 98, 99, 100, 101, 102])) (ee_bin (ee_var (i := 0) rfl) ee_int (by walk_at "bd")) (fun m => by walk_at "sd")) (ee_var (i := 2) rfl) (by walk_at "bd")) (C_eq (b := digs (i + 1) n) rfl)) ?_)
    refine wss_one (ws_setE (i := 0) sc__law_code_figures.nd (EE.is (ee_bin (ee_var (i := 0) rfl) ee_int (by walk_at "bd")) (I_eq (b := (n / 16 ^ (i + 1) : Nat)) ?_)) ⟨_, rfl, rfl⟩)
    rw [← div_step]
    omega
  · rintro ds' m' ⟨y, rfl, rfl⟩
    rw [List.length_map, List.length_range, Int.toNat_natCast]
    exact wss_one (ws_retE (ee_var (i := 2) rfl) hp)
theorem ok__law_code_turned (T : Tx K mg) : FnG P w K mg base CX0 2 T.a__law_code_turned T.d__law_code_turned ["cells"] (SpD K (pureF R__law_code_turned)) := by
  refine fnD_ok T.F__law_code_turned sc__law_code_turned (fun xs m Pp ⟨d, h, _⟩ => by cases h; rfl) (fun cdv A outer s H E rm xs m Pp ⟨d, hR, hp⟩ => ?_)
  cases hR with | @mk ws ho hl =>
  exact wss_one (ws_retE (ee_meth PySem.F.plainAttrs_str PySem.F.slot_str_join PySem.F.type_str_join (EE.is (ee_strS (l := [])) (show S [] = C [] from rfl)) (ea_cons (ee_lcm (ws) (fun w => C [w]) (fun w => PyData.str ⟨([15 - w].map dig).toArray⟩) [("sign", 1)] rfl sc__law_code_turned.nd (ei_cells (ee_var (i := 0) rfl)) (by walk_at "sz") (fun a ha s H Ce cl fp => (ee_sub (ee_strS (l := [48, 49, 50, 51, 52, 53, 54, 55, 56, 57, 97, 98, 99, 100, 101, 102])) (ee_bin ee_int (eg_call (ok__law_code_worth T) (rm.mono (by decide)) T.m__law_code_worth T.F__law_code_worth.kp T.b__law_code_worth (ea_cons (ee_var (i := 1) rfl) ea_nil) (by walk_at "call _law_code_worth")) (by walk_at "bd")) (fun m => by walk_at "sd"))) (fun _ _ _ _ _ _ _ _ _ p => wg_name p sc__law_code_turned.nd) (blkOk_by (by rfl))) ea_nil) (fun m => by walk_at "md")) hp)
theorem ok__law_code_sums (T : Tx K mg) : FnG P w K mg base CX0 2 T.a__law_code_sums T.d__law_code_sums ["cells"] (SpD K (pureF R__law_code_sums)) := by
  refine fnD_ok T.F__law_code_sums sc__law_code_sums (fun xs m Pp ⟨d, h, _⟩ => by cases h; rfl) (fun cdv A outer s H E rm xs m Pp ⟨d, hR, hp⟩ => ?_)
  cases hR with | @mk ws ho hl =>
  refine wss_cons (ws_setE (i := 1) sc__law_code_sums.nd (ee_lst (eap_cons ee_int (eap_cons ee_int (eap_cons ee_int eap_nil)))) ?_)
  refine wss_cons (ws_for (js := [2, 3]) (((ei_enumC (ee_slice (ee_var (i := 0) rfl) eo_none (eo_some ee_int) (fun m => by walk_at "sl")) (by walk_at "ok") T.m_enumerate)).to ⟨fun i ds' m' => ∃ y z u, ds' = [some (C ws), some (Ls [.int (sumW f0 0 ((ws.take 226).take i) : Nat), .int (sumW f1 0 ((ws.take 226).take i) : Nat), .int (sumW f2 0 ((ws.take 226).take i) : Nat)]), y, z, u] ∧ m' = m, ⟨_, _, _, rfl, rfl⟩, ?_, ?_⟩))
  · rintro i x ds' m' hx ⟨y, z, u, rfl, rfl⟩
    obtain ⟨w, hw, rfl⟩ := map_zip_get hx
    have hi := get_lt hw
    rw [List.length_take] at hi
    have hw16 : w < 16 := (ho.tk 226).get hw
    refine wg_tup (wgs_cons (wg_name (wgs_cons (wg_name (wgs_nil ?_) sc__law_code_sums.nd)) sc__law_code_sums.nd))
    refine wss_cons (ws_setE (i := 4) sc__law_code_sums.nd (ee_bin ee_int (eg_call (ok__law_code_worth T) (rm.mono (by decide)) T.m__law_code_worth T.F__law_code_worth.kp T.b__law_code_worth (ea_cons (ee_var (i := 3) rfl) ea_nil) (by walk_at "call _law_code_worth")) (by walk_at "bd")) ?_)
    refine wss_one (ws_setE (i := 1) sc__law_code_sums.nd (ee_lst (eap_cons (ee_bin (ee_sub (ee_var (i := 1) rfl) ee_int (fun m => by walk_at "sd")) (ee_var (i := 4) rfl) (by walk_at "bd")) (eap_cons (ee_bin (ee_sub (ee_var (i := 1) rfl) ee_int (fun m => by walk_at "sd")) (ee_bin (ee_var (i := 4) rfl) (ee_bin (ee_var (i := 2) rfl) ee_int (by walk_at "bd")) (by walk_at "bd")) (by walk_at "bd")) (eap_cons (ee_bin (ee_sub (ee_var (i := 1) rfl) ee_int (fun m => by walk_at "sd")) (ee_bin (ee_bin (ee_var (i := 4) rfl) (ee_bin (ee_var (i := 2) rfl) ee_int (by walk_at "bd")) (by walk_at "bd")) (ee_bin (ee_var (i := 2) rfl) ee_int (by walk_at "bd")) (by walk_at "bd")) (by walk_at "bd")) eap_nil)))) ⟨some (I i), some (C [w]), some (I (15 - (w : Int))), ?_, rfl⟩)
    rw [sum_t0 hw hw16, sum_t1 hw hw16, sum_t2 hw hw16]
    rfl
  · rintro ds' m' ⟨y, z, u, rfl, rfl⟩
    rw [List.length_map, List.length_zipIdx, List.take_length]
    exact wss_one (ws_retE (ee_callTy (ea_cons (ee_var (i := 1) rfl) ea_nil) (fun m => by walk_at "ca") T.m_tuple bo_tuple) hp)
theorem ok__law_code_tail (T : Tx K mg) : FnG P w K mg base CX0 3 T.a__law_code_tail T.d__law_code_tail ["cells"] (SpD K (pureF R__law_code_tail)) := by
  refine fnD_ok T.F__law_code_tail sc__law_code_tail (fun xs m Pp ⟨d, h, _⟩ => by cases h; rfl) (fun cdv A outer s H E rm xs m Pp ⟨d, hR, hp⟩ => ?_)
  cases hR with | @mk ws ho hl =>
  generalize ha : s0 ws = a at *
  generalize hb : s1 ws = b at *
  generalize hc : s2 ws = c at *
  refine wss_cons (ws_setE (i := 1) sc__law_code_tail.nd (EE.is (ee_strS (l := [])) (show S [] = C [] from rfl)) ?_)
  refine wss_cons (ws_for (js := [2, 3]) ((EI.is (ei_zipT (eg_call (ok__law_code_sums T) (rm.mono (by decide)) T.m__law_code_sums T.F__law_code_sums.kp T.b__law_code_sums (ea_cons (ee_var (i := 0) rfl) ea_nil) (by walk_at "call _law_code_sums")) (ee_tup (eap_cons ee_int (eap_cons ee_int (eap_cons ee_int eap_nil)))) T.m_zip) (show _ = (List.zip [PyData.int a, .int b, .int c] [.int 3, .int 5, .int 7]).map fun (q : PyData × PyData) => Tp [q.1, q.2] by rw [ha, hb, hc])).to ⟨fun i ds' m' => ∃ y z u, ds' = [some (C ws), some (C ((tailOf a b c).take ([0, 6, 16, 30].getD i 0))), y, z, u] ∧ m' = m, ⟨_, _, _, rfl, rfl⟩, ?_, ?_⟩))
  · rintro i x ds' m' hx ⟨y, z, u, rfl, rfl⟩
    obtain ⟨n, k, rfl, hk, e⟩ := pre_get hx
    have hl := pre_len a b c ([0, 6, 16, 30].getD i 0)
    have hd := digs_length k n
    refine wg_tup (wgs_cons (wg_name (wgs_cons (wg_name (wgs_nil ?_) sc__law_code_tail.nd)) sc__law_code_tail.nd))
    refine wss_cons (ws_setE (i := 4) sc__law_code_tail.nd (eg_call (ok__law_code_figures T) (rm.mono (by decide)) T.m__law_code_figures T.F__law_code_figures.kp T.b__law_code_figures (ea_cons (ee_var (i := 2) rfl) (ea_cons (ee_var (i := 3) rfl) ea_nil)) (by walk_at "call _law_code_figures")) ?_)
    refine wss_one (ws_setE (i := 1) sc__law_code_tail.nd (EE.is (ee_bin (ee_bin (ee_var (i := 1) rfl) (ee_var (i := 4) rfl) (by walk_at "bd")) (eg_call (ok__law_code_turned T) (rm.mono (by decide)) T.m__law_code_turned T.F__law_code_turned.kp T.b__law_code_turned (ea_cons (ee_var (i := 4) rfl) ea_nil) (by walk_at "call _law_code_turned")) (by walk_at "bd")) (C_eq (b := (tailOf a b c).take ([0, 6, 16, 30].getD (i + 1) 0)) ?_)) ⟨_, _, _, rfl, rfl⟩)
    rw [e, List.append_assoc]
    rfl
  · rintro ds' m' ⟨y, z, u, rfl, rfl⟩
    refine wss_one (ws_retE (EE.is (ee_var (i := 1) rfl) (C_eq (b := tailOf a b c) ?_)) hp)
    exact List.take_of_length_le (by rw [tailOf_length]; exact Nat.le_refl 30)
theorem ok__law_code_signs (T : Tx K mg) : FnG P w K mg base CX0 1 T.a__law_code_signs T.d__law_code_signs [] (SpD K (pureF R__law_code_signs)) := by
  refine fnD_ok T.F__law_code_signs sc__law_code_signs (fun xs m Pp ⟨d, h, _⟩ => by cases h; rfl) (fun cdv A outer s H E rm xs m Pp ⟨d, hR, hp⟩ => ?_)
  cases hR with | mk =>
  exact wss_one (ws_retE (ee_strS (l := [32, 33, 34, 35, 36, 38, 39, 40, 41, 42, 43, 44, 45, 46, 47, 48, 49, 50, 51, 52, 53, 54, 55, 56, 57, 58, 59, 60, 61, 62, 63, 64, 65, 66, 67, 68, 69, 70, 71, 72, 73, 74, 75, 76, 77, 78, 79, 80, 81, 82, 83, 84, 85, 86, 87, 88, 89, 90, 91, 92, 93, 94, 95, 96, 97, 98, 99, 100, 101, 102, 103, 104, 105, 106, 107, 108, 109, 110, 111, 112, 113, 114, 115, 116, 117, 118, 119, 120, 121, 122, 123, 124, 125, 126])) hp)
theorem ok__law_code_sealed (T : Tx K mg) : FnG P w K mg base CX0 4 T.a__law_code_sealed T.d__law_code_sealed ["text"] (SpD K (pureF R__law_code_sealed)) := by
  refine fnD_ok T.F__law_code_sealed sc__law_code_sealed (fun xs m Pp ⟨d, h, _⟩ => by cases h; rfl) (fun cdv A outer s H E rm xs m Pp ⟨d, hR, hp⟩ => ?_)
  cases hR with | @mk t ht hl =>
  have he := enc_length t
  have hcl := cellsOf_length hl
  refine wss_cons (ws_setE (i := 1) sc__law_code_sealed.nd (EE.is (ee_meth PySem.F.plainAttrs_str PySem.F.slot_str_join PySem.F.type_str_join (EE.is (ee_strS (l := [])) (show S [] = C [] from rfl)) (ea_cons (ee_lcm (t) (fun c => S [c]) (fun c => PyData.str ⟨((digs 2 c).map dig).toArray⟩) [("sign", 2)] rfl sc__law_code_sealed.nd (ei_str (ee_var (i := 0) rfl)) (by walk_at "sz") (fun a ha s H Ce cl fp => (eg_call (ok__law_code_figures T) (rm.mono (by decide)) T.m__law_code_figures T.F__law_code_figures.kp T.b__law_code_figures (ea_cons (ee_callB (ea_cons (ee_var (i := 2) rfl) ea_nil) (fun m => by walk_at "ca") T.m_ord bo_ord) (ea_cons ee_int ea_nil)) (by walk_at "call _law_code_figures"))) (fun _ _ _ _ _ _ _ _ _ p => wg_name p sc__law_code_sealed.nd) (blkOk_by (by rfl))) ea_nil) (fun m => by walk_at "md")) (C_eq (b := enc t) rfl)) ?_)
  refine wss_cons (ws_setE (i := 1) sc__law_code_sealed.nd (EE.is (ee_bin (ee_var (i := 1) rfl) (ee_bin (EE.is (ee_strS (l := [102])) (show S [102] = C [15] from rfl)) (ee_bin ee_int (ee_callB (ea_cons (ee_var (i := 1) rfl) ea_nil) (fun m => by walk_at "ca") T.m_len bo_len) (by walk_at "bd")) (by walk_at "bd")) (by walk_at "bd")) (C_eq (b := cellsOf t) ?_)) ?_)
  · unfold cellsOf
    rw [rep_one, he]
    congr 2
    omega
  · exact wss_one (ws_retE (EE.is (ee_bin (ee_var (i := 1) rfl) (eg_call (ok__law_code_tail T) (rm.mono (by decide)) T.m__law_code_tail T.F__law_code_tail.kp T.b__law_code_tail (ea_cons (ee_var (i := 1) rfl) ea_nil) (by walk_at "call _law_code_tail")) (by walk_at "bd")) (C_eq (b := sealT t) rfl)) hp)
theorem ok__law_code_by_numbers (T : Tx K mg) : FnG P w K mg base CX0 2 T.a__law_code_by_numbers T.d__law_code_by_numbers [] (SpD K F__law_code_by_numbers) := by
  refine fnD_ok T.F__law_code_by_numbers sc__law_code_by_numbers (fun xs m Pp h => by cases h; rfl) (fun cdv A outer s H E rm xs m Pp hF => ?_)
  cases hF with | @mk m Pp h =>
  refine wss_one (ws_ret (we_dictS (l := sgs) (ee_lcm (sgs) (fun c => S [c]) (fun c => PyData.tuple [.int (c : Nat), .str ⟨[c].toArray⟩]) [("sign", 0)] rfl sc__law_code_by_numbers.nd (ei_str (ee_bin (eg_call0 (ok__law_code_signs T) (rm.mono (by decide)) T.m__law_code_signs T.F__law_code_signs.kp T.b__law_code_signs (by walk_at "call _law_code_signs")) (ee_strS (l := [10])) (by walk_at "bd"))) (by walk_at "sz") (fun a ha s H Ce cl fp => (ee_tup (eap_cons (ee_callB (ea_cons (ee_var (i := 0) rfl) ea_nil) (fun m => by walk_at "ca") T.m_ord bo_ord) (eap_cons (ee_var (i := 0) rfl) eap_nil)))) (fun _ _ _ _ _ _ _ _ _ p => wg_name p sc__law_code_by_numbers.nd) (blkOk_by (by rfl))) h T.m_dict bo_dict))
end
end K08
end W9
namespace W9
namespace K08
open PySem PySem.Spec PyProof.Rows L2
local macro_rules | `(tactic| walk_at "lt") => `(tactic| first | assumption | exact w0_lt (by assumption) _ | exact w0_lt (sealT_ok _) _ | omega | exact Ok.get (by assumption) (by assumption) | exact (by assumption : Ok _) _ (by assumption))
local macro_rules | `(tactic| walk_at "sz") => `(tactic| first | assumption | omega | decide | (simp only [List.length_append, List.length_map]; omega) | (simp only [List.length_append, List.length_take, List.length_drop, List.length_map, List.length_replicate, List.length_range, List.length_cons, List.length_nil, digs_length, tw_length, enc_length, rep_length, tailOf_length]; omega))
local macro_rules | `(tactic| walk_at "ok") => `(tactic| first | assumption | exact Ok.tk _ (by assumption) | exact Ok.dp _ (by assumption) | exact Ok.tk _ (Ok.dp _ (by assumption)) | exact digs_ok _ _ | exact cmpl_ok | exact cellsOf_ok _ | exact sealT_ok _ | exact cut_ok (by assumption) _ _ | exact rep_ok (by decide) | exact Ok.nil | exact Ok.one (w0_lt (by assumption) _) | exact Ok.one (w0_lt (sealT_ok _) _) | exact Ok.one (by decide) | exact Ok.app (Ok.one (by decide)) (Ok.one (by decide)))
local macro_rules | `(tactic| walk_at "bd") => `(tactic| first | exact bd_add | exact bd_sub | exact bd_mul (by omega) | exact bd_mul (by have := rng_of (by assumption); omega) | exact bd_mod (by omega) | exact bd_pow (by omega) | exact bd_powX (by decide +kernel) | exact bd_mod (by decide +kernel) | exact bd_mulB | exact bd_mod (by have := of_decide_eq_false (by assumption); omega) | exact bd_div (by omega) | exact bd_addC (by walk_at "sz") | exact bd_mulC (by walk_at "sz") | exact bd_mulC ⟨by decide, by decide, by assumption⟩ | exact bd_addS (by walk_at "sz") | exact bd_catL (by walk_at "sz"))
local macro_rules | `(tactic| walk_at "cd") => `(tactic| first | exact cd_lt | exact cd_ltC (by walk_at "lt") (by walk_at "lt") | exact cd_le | exact cd_gt | exact cd_ge | exact cd_eq | exact cd_ne | exact cd_eqC (by walk_at "ok") (by walk_at "ok") | exact cd_neC (by walk_at "ok") (by walk_at "ok") | exact cd_inHex (by walk_at "lt") | exact cd_inS | exact cd_isN | exact cd_notN | exact cd_eqS | exact cd_neS)
local macro_rules | `(tactic| walk_at "md") => `(tactic| first | exact md_hex (by walk_at "lt") | exact md_joinC1 (by walk_at "sz") | exact md_joinCf (f := digs 2) (k := 2) (fun _ _ => by rw [digs_length]; decide) (by walk_at "sz") | exact md_joinS (by walk_at "sz") | exact md_index (low_occ _ (by omega) (by omega) (by omega)) | exact md_index (high_occ _ (by omega) (by omega) (by omega)))
local macro_rules | `(tactic| walk_at "sd") => `(tactic| first | exact sd_hexM | exact sd_hexT (by walk_at "lt") | exact sd_C (by assumption) (by walk_at "sz") | exact sd_C (w0_get (by omega)) (by walk_at "sz") | exact sd_Ci (by have := rng_of (by assumption); omega) (w0_get (by have := rng_of (by assumption); omega)) (by walk_at "sz") | exact sd_Ci (by omega) (w0_get (by omega)) (by walk_at "sz") | exact sd_C (w0_get (Nat.lt_of_lt_of_le ((by assumption : ∀ a, a ∈ _ → a < 256) _ (by assumption)) (Nat.le_of_eq (Eq.symm (by assumption))))) (by walk_at "sz") | exact sd_hexN (by omega) (by omega) | exact sd_ints (l := [2147483647, 2147483629, 2147483587, 2147483579, 2147483563]) (by omega) (by simp only [List.length_cons, List.length_nil]; omega) | exact sd_lst rfl | exact sd_tup rfl | exact sd_low (by omega) | exact sd_high (by omega))
local macro_rules | `(tactic| walk_at "sl") => `(tactic| first | exact sl_C0n (b := 226) (by walk_at "sz") | exact sl_C0n (b := 226) (by walk_at "sz") | exact sl_Cn0 (a := 226) (by walk_at "sz") | exact sl_C (by walk_at "sz") | exact sl_L)
local macro_rules | `(tactic| walk_at "rg") => `(tactic| first | exact rg_pairs | omega)
local macro_rules | `(tactic| walk_at "ca") => `(tactic| first | exact ca_isiStr | exact ca_lenC (by walk_at "sz") | exact ca_allm rfl | exact ca_lenS (by walk_at "sz") | exact ca_lenL | exact ca_lenT | exact ca_tupL | exact ca_ord | exact ca_int | exact ca_intB | exact ca_abs | exact ca_max2 rfl | exact ca_min2 rfl | exact ca_listS rfl (by walk_at "sz"))
local macro_rules | `(tactic| walk_at "call cell_number") => `(tactic| exact .mk (by walk_at "lt"))
local macro_rules | `(tactic| walk_at "call number_in_cells") => `(tactic| exact .mk (by walk_at "ok"))
local macro_rules | `(tactic| walk_at "call cells_of_number") => `(tactic| first | exact .mk (k := 2) (by decide) | exact .mk (by walk_at "sz"))
local macro_rules | `(tactic| walk_at "call contrary") => `(tactic| exact .mk (by walk_at "ok") (by walk_at "sz"))
local macro_rules | `(tactic| walk_at "call sums_of") => `(tactic| exact .mk (by walk_at "ok") (by walk_at "sz"))
local macro_rules | `(tactic| walk_at "call sum_cells") => `(tactic| exact .mk)
local macro_rules | `(tactic| walk_at "call sign_number") => `(tactic| first | exact .mk (by assumption) | exact .mk ((by assumption : OkT _) _ (by assumption)))
local macro_rules | `(tactic| walk_at "call sign_of") => `(tactic| exact .mk (by assumption))
local macro_rules | `(tactic| walk_at "call is_page_text") => `(tactic| exact .mk (by assumption) (by assumption))
local macro_rules | `(tactic| walk_at "call text_cells") => `(tactic| exact .mk (by assumption) (by assumption))
local macro_rules | `(tactic| walk_at "fl") => `(tactic| first | rfl | exact int_ne255 | simp)
local macro_rules | `(tactic| walk_at "call signs_in") => `(tactic| exact .mk (by walk_at "ok") (by walk_at "sz") (by walk_at "sz"))
local macro_rules | `(tactic| walk_at "call sealed_page") => `(tactic| exact .mk (by assumption) (by assumption))
local macro_rules | `(tactic| walk_at "call told_sums") => `(tactic| exact .mk (by walk_at "ok") (by walk_at "sz"))
local macro_rules | `(tactic| walk_at "call fallen_in_text") => `(tactic| exact .mk (by walk_at "ok") (by walk_at "sz"))
local macro_rules | `(tactic| walk_at "call fallen_in_sums") => `(tactic| exact .mk (by walk_at "ok") (by walk_at "sz"))
local macro_rules | `(tactic| walk_at "call are_cells") => `(tactic| exact .mk (by walk_at "ok") (by walk_at "sz"))
local macro_rules | `(tactic| walk_at "call is_page") => `(tactic| exact .mk (by walk_at "ok") (by walk_at "sz"))
local macro_rules | `(tactic| walk_at "call _law_code_worth") => `(tactic| exact .mk (by walk_at "lt"))
local macro_rules | `(tactic| walk_at "call _law_code_number") => `(tactic| exact .mk (by walk_at "ok"))
local macro_rules | `(tactic| walk_at "call _law_code_figures") => `(tactic| first | exact .mk (k := 2) (by decide) | exact .mk (by walk_at "sz"))
local macro_rules | `(tactic| walk_at "call _law_code_turned") => `(tactic| exact .mk (by walk_at "ok") (by walk_at "sz"))
local macro_rules | `(tactic| walk_at "call _law_code_sums") => `(tactic| exact .mk (by walk_at "ok") (by walk_at "sz"))
local macro_rules | `(tactic| walk_at "call _law_code_tail") => `(tactic| exact .mk (by walk_at "ok") (by walk_at "sz"))
local macro_rules | `(tactic| walk_at "call _law_code_signs") => `(tactic| exact .mk)
local macro_rules | `(tactic| walk_at "call _law_code_unlike") => `(tactic| exact .mk (by walk_at "ok") (by walk_at "sz") (by walk_at "ok") (by walk_at "sz"))
local macro_rules | `(tactic| walk_at "call _law_code_fallen") => `(tactic| exact .mk (by walk_at "ok") (by walk_at "sz") (by walk_at "ok") (by walk_at "sz"))
local macro_rules | `(tactic| walk_at "call _law_code_sealed") => `(tactic| exact .mk (by assumption) (by assumption))
local macro_rules | `(tactic| walk_at "call _law_code_text") => `(tactic| exact .mk (by walk_at "ok") (by walk_at "sz"))
local macro_rules | `(tactic| walk_at "call _law_code_told") => `(tactic| exact .mk (by walk_at "ok") (by walk_at "sz"))
local macro_rules | `(tactic| walk_at "call _law_code_lifted") => `(tactic| exact .mk (by walk_at "ok") (by walk_at "sz"))
local macro_rules | `(tactic| walk_at "call _law_code_opened") => `(tactic| exact .mk (by walk_at "ok") (by walk_at "sz"))
local macro_rules | `(tactic| walk_at "rep") => `(tactic| assumption)
local macro_rules | `(tactic| walk_at "call sums") => `(tactic| exact .mk (by walk_at "ok") (by walk_at "sz"))
local macro_rules | `(tactic| walk_at "call opened") => `(tactic| exact .mk (by walk_at "ok") (by walk_at "sz"))
local macro_rules | `(tactic| walk_at "call _law_cells") => `(tactic| exact .mk)

inductive R__law_code_told : List SD → SD → Prop
  | mk {ws : List Nat} (h : Ok ws) (hl : ws.length = 256) : R__law_code_told [C ws] (.py (t2P (told2 ws)))
inductive R__law_code_lifted : List SD → SD → Prop
  | mk {ws : List Nat} (h : Ok ws) (hl : ws.length = 256) : R__law_code_lifted [C ws] (.py (lifP ws))
inductive R__law_code_opened : List SD → SD → Prop
  | mk {ws : List Nat} (h : Ok ws) (hl : ws.length = 256) : R__law_code_opened [C ws] (.py (lo ws))
section
variable {P : Program} {w : World} {K : PySem.W.Frag} {mg : Str → Option Value} {base : Heap}
theorem ok__law_code_text (T : Tx K mg) : FnG P w K mg base CX0 3 T.a__law_code_text T.d__law_code_text ["head"] (SpD K (pureF R__law_code_text)) := by
  refine fnD_ok T.F__law_code_text sc__law_code_text (fun xs m Pp ⟨d, h, _⟩ => by cases h; rfl) (fun cdv A outer s H E rm xs m Pp ⟨d, hR, hp⟩ => ?_)
  cases hR with | @mk ws ho hl =>
  have hpl := ps_length (ws := ws) (by omega)
  have hm : manyN ws ≤ 113 := by
    have := List.length_filter_le (· != 255) (ps ws)
    show ((ps ws).filter (· != 255)).length ≤ 113
    omega
  refine wss_cons (ws_setLcm (i := 1) (List.range 113) (fun i => I (0 + (i : Int) * 2)) (fun a => PyData.int ((num (cut ws (some (0 + (a : Int) * 2)) (some (0 + (a : Int) * 2 + 2))) : Nat) : Int)) [("at", 5)] rfl sc__law_code_text.nd (ei_range3 ee_int ee_int ee_int (by walk_at "rg") T.m_range) (by walk_at "sz") (fun a ha s H Ce cl fp => (eg_call (ok__law_code_number T) (rm.mono (by decide)) T.m__law_code_number T.F__law_code_number.kp T.b__law_code_number (ea_cons (ee_slice (ee_var (i := 0) rfl) (eo_some (ee_var (i := 5) rfl)) (eo_some (ee_bin (ee_var (i := 5) rfl) ee_int (by walk_at "bd"))) (fun m => by walk_at "sl")) ea_nil) (by walk_at "call _law_code_number"))) (fun _ _ _ _ _ _ _ _ _ p => wg_name p sc__law_code_text.nd) (blkOk_by (by rfl)) ?_)
  rw [hex_nums (by omega)]
  refine wss_cons (ws_setE (i := 2) sc__law_code_text.nd (EE.is (ee_callB (ea_cons (ee_lcf (ps ws) (fun n => I (n : Nat)) (fun n => n != 255) (fun _ => PyData.int 1) [("sign", 6)] rfl sc__law_code_text.nd (EI.is (ei_lst (ee_var (i := 1) rfl)) (List.map_map)) (by walk_at "sz") (fun a ha s H Ce cl fp => ET.is (et_cmp (ee_var (i := 6) rfl) ee_int (by walk_at "cd")) (by walk_at "fl")) (fun a ha hp s H Ce cl fp => ee_int) (fun _ _ _ _ _ _ _ _ _ p => wg_name p sc__law_code_text.nd) (blkOk_by (by rfl))) ea_nil) (fun m => by walk_at "ca") T.m_len bo_len) (I_eq (b := (manyN ws : Nat)) (by rw [List.length_map]))) ?_)
  refine wss_cons (ws_set (i := 3) sc__law_code_text.nd (wg_call0 (ok__law_code_by_numbers T) (rm.mono (by decide)) T.m__law_code_by_numbers T.F__law_code_by_numbers.kp T.b__law_code_by_numbers ⟨[], m, rfl, .mk fun p hpf => ?_⟩))
  rw [List.nil_append]
  refine wss_cons (ws_set (i := 4) sc__law_code_text.nd (we_meth PySem.F.plainAttrs_str PySem.F.slot_str_join PySem.F.type_str_join (EE.is (ee_strS (l := [])) (show S [] = C [] from rfl)) (fun m => ty_str) (wa_cons
    (we_lcW ((ps ws).take (manyN ws)) (fun n => I (n : Nat)) (fun n => PyData.str ⟨(oneL n).toArray⟩) [("sign", 6)] rfl sc__law_code_text.nd (EI.is (ei_lst (ee_slice (ee_var (i := 1) rfl) eo_none (eo_some (ee_var (i := 2) rfl)) (fun m => by walk_at "sl"))) (by rw [cut_map, cut_0n, List.map_map]; rfl)) (by rw [List.length_take]; omega)
      (fun a ha s H Ce cl fp => we_dget2 (p := p) (kvs := kn) (d := .str ⟨([] : List Nat).toArray⟩) (i := (a : Nat)) (hu_of rm.r) (ee_var (i := 3) rfl) (ee_var (i := 6) rfl) (EE.is (ee_strS (l := [])) (show S [] = C [] from rfl)) List.mem_cons_self (fun G x hx => ?_) ⟨rfl, rfl, rfl, rfl⟩)
      (fun _ _ _ _ _ _ _ _ _ p => wg_name p sc__law_code_text.nd) (blkOk_by (by rfl)) (wa_nil ⟨_, md_joinSf (f := oneL) (k := 1) (fun a _ => ?_) (by rw [List.length_take]; omega), ?_⟩)))))
  · have hn : a < 256 := pairs_lt (ho.tk 226) a (List.mem_of_mem_take ha)
    rw [kn_get a hn]
    by_cases hq : al a = true
    · rw [if_pos hq]
      refine ⟨_, .str _, ?_, rfl⟩
      show SD.py (.str ⟨#[a]⟩) = .py (.str ⟨(if al a = true then [a] else []).toArray⟩)
      rw [if_pos hq]
    · rw [if_neg hq]
      refine ⟨_, hx, ?_, rfl⟩
      show _ = SD.py (.str ⟨(if al a = true then [a] else []).toArray⟩)
      rw [if_neg hq]
  · show (if al a = true then [a] else []).length ≤ 1
    split <;> simp
  · rw [one_flat]
    have hx : (((ps ws).take (manyN ws)).filter al).length ≤ 113 := by
      have h1 := List.length_filter_le al ((ps ws).take (manyN ws))
      rw [List.length_take] at h1
      omega
    refine wss_drop (wss_one (ws_retE (EE.is (ee_ifp (et_w (ew_and (et_cmp (ee_callB (ea_cons (ee_var (i := 4) rfl) ea_nil) (fun m => by walk_at "ca") T.m_len bo_len) (ee_var (i := 2) rfl) (by walk_at "cd")) (fun hk => (ew_and1 (et_cmp (ee_slice (ee_var (i := 0) rfl) (eo_some (ee_bin ee_int (ee_var (i := 2) rfl) (by walk_at "bd"))) eo_none (fun m => by walk_at "sl")) (ee_bin (EE.is (ee_strS (l := [102])) (show S [102] = C [15] from rfl)) (ee_bin ee_int (ee_bin ee_int (ee_var (i := 2) rfl) (by walk_at "bd")) (by walk_at "bd")) (by walk_at "bd")) (by walk_at "cd")))))) (fun _ => (ee_var (i := 4) rfl)) (fun _ => ee_non)) ?_) hp))
    rw [← decL_dec ho (by omega)]
    unfold decL
    dsimp only
    have e1 : cut ws (some (2 * ((manyN ws : Nat) : Int))) none = (ws.take 226).drop (2 * manyN ws) := by
      have e : 2 * ((manyN ws : Nat) : Int) = ((2 * manyN ws : Nat) : Int) := by omega
      rw [e, cut_n0, List.take_of_length_le (by omega)]
    have e2 : rep ((226 : Int) - 2 * ((manyN ws : Nat) : Int)).toNat [15] = List.replicate (226 - 2 * manyN ws) 15 := by
      rw [rep_one]
      congr 1
      omega
    rw [e1, e2]
    by_cases hc : (((ps ws).take (manyN ws)).filter al).length = manyN ws ∧ (ws.take 226).drop (2 * manyN ws) = List.replicate (226 - 2 * manyN ws) 15
    · rw [if_pos hc, if_pos]
      · rfl
      · rw [Bool.and_eq_true, decide_eq_true_eq, decide_eq_true_eq]
        exact ⟨by omega, hc.2⟩
    · rw [if_neg hc, if_neg]
      · rfl
      · rw [Bool.and_eq_true, decide_eq_true_eq, decide_eq_true_eq]
        exact fun z => hc ⟨by omega, z.2⟩
theorem ok__law_code_unlike (T : Tx K mg) : FnG P w K mg base CX0 1 T.a__law_code_unlike T.d__law_code_unlike ["one", "other"] (SpD K (pureF R__law_code_unlike)) := by
  refine fnD_ok T.F__law_code_unlike sc__law_code_unlike (fun xs m Pp ⟨d, h, _⟩ => by cases h; rfl) (fun cdv A outer s H E rm xs m Pp ⟨d, hR, hp⟩ => ?_)
  cases hR with | @mk a b ho hl ho2 hl2 =>
  have hm : ∀ x, x ∈ (List.range 256).map (0 + ·) → x < 256 := fun x hx => by
    obtain ⟨i, hi, rfl⟩ := List.mem_map.mp hx
    rw [List.mem_range] at hi
    omega
  exact wss_one (ws_retE (ee_lcf ((List.range 256).map (0 + ·)) (fun x => I (x : Nat)) (fun p => decide (w0 a p ≠ w0 b p)) (fun x => PyData.int (x : Nat)) [("at", 2)] rfl sc__law_code_unlike.nd (EI.is (ei_range1 ee_int (by walk_at "rg") T.m_range) (by rw [List.map_map]; exact List.map_congr_left fun i _ => by show I _ = I ((0 + i : Nat) : Int); rw [Nat.zero_add])) (by walk_at "sz") (fun a ha s H Ce cl fp => ET.is (et_cmp (ee_sub (ee_var (i := 0) rfl) (ee_var (i := 2) rfl) (fun m => by walk_at "sd")) (ee_sub (ee_var (i := 1) rfl) (ee_var (i := 2) rfl) (fun m => by walk_at "sd")) (by walk_at "cd")) (by walk_at "fl")) (fun a ha hp s H Ce cl fp => (ee_var (i := 2) rfl)) (fun _ _ _ _ _ _ _ _ _ p => wg_name p sc__law_code_unlike.nd) (blkOk_by (by rfl))) hp)
theorem ok__law_code_fallen (T : Tx K mg) : FnG P w K mg base CX0 2 T.a__law_code_fallen T.d__law_code_fallen ["cells", "page"] (SpD K (pureF R__law_code_fallen)) := by
  refine fnD_ok T.F__law_code_fallen sc__law_code_fallen (fun xs m Pp ⟨d, h, _⟩ => by cases h; rfl) (fun cdv A outer s H E rm xs m Pp ⟨d, hR, hp⟩ => ?_)
  cases hR with | @mk a b ho hl ho2 hl2 =>
  refine wss_cons (ws_setE (i := 2) sc__law_code_fallen.nd (eg_call (ok__law_code_unlike T) (rm.mono (by decide)) T.m__law_code_unlike T.F__law_code_unlike.kp T.b__law_code_unlike (ea_cons (ee_var (i := 0) rfl) (ea_cons (ee_var (i := 1) rfl) ea_nil)) (by walk_at "call _law_code_unlike")) ?_)
  rcases hq : unl a b 0 256 with _ | ⟨p, _ | ⟨q, r⟩⟩
  · have e : fal a b = none := by unfold fal; rw [hq]
    rw [e] at hp
    exact wss_one (ws_retE (ee_if (k := false) (ET.is (et_w (ew_and (l := true) (et_cmp (ee_callB (ea_cons (ee_var (i := 2) rfl) ea_nil) (fun m => by walk_at "ca") T.m_len bo_len) ee_int (by walk_at "cd")) (fun hk => absurd hk (by simp <;> omega)))) (by simp)) (fun h => by cases h) (fun _ => ee_non)) hp)
  · have hp2 := (unl_mem hq).1.1
    by_cases hlt : w0 a p < w0 b p
    · have e : fal a b = some p := fal_mk hq hlt
      rw [e] at hp
      exact wss_one (ws_retE (ee_if (k := true) (ET.is (et_w (ew_and (et_cmp (ee_callB (ea_cons (ee_var (i := 2) rfl) ea_nil) (fun m => by walk_at "ca") T.m_len bo_len) ee_int (by walk_at "cd")) (fun hk => (ew_and1 (et_cmp (ee_sub (ee_var (i := 0) rfl) (ee_sub (ee_var (i := 2) rfl) ee_int (fun m => by walk_at "sd")) (fun m => by walk_at "sd")) (ee_sub (ee_var (i := 1) rfl) (ee_sub (ee_var (i := 2) rfl) ee_int (fun m => by walk_at "sd")) (fun m => by walk_at "sd")) (by walk_at "cd")))))) (by rw [decide_eq_true hlt]; rfl)) (fun _ => (ee_sub (ee_var (i := 2) rfl) ee_int (fun m => by walk_at "sd"))) (fun h => by cases h)) hp)
    · have e : fal a b = none := by
        unfold fal
        rw [hq]
        exact if_neg hlt
      rw [e] at hp
      exact wss_one (ws_retE (ee_if (k := false) (ET.is (et_w (ew_and (et_cmp (ee_callB (ea_cons (ee_var (i := 2) rfl) ea_nil) (fun m => by walk_at "ca") T.m_len bo_len) ee_int (by walk_at "cd")) (fun hk => (ew_and1 (et_cmp (ee_sub (ee_var (i := 0) rfl) (ee_sub (ee_var (i := 2) rfl) ee_int (fun m => by walk_at "sd")) (fun m => by walk_at "sd")) (ee_sub (ee_var (i := 1) rfl) (ee_sub (ee_var (i := 2) rfl) ee_int (fun m => by walk_at "sd")) (fun m => by walk_at "sd")) (by walk_at "cd")))))) (by rw [decide_eq_false hlt]; rfl)) (fun h => by cases h) (fun _ => ee_non)) hp)
  · have e : fal a b = none := by unfold fal; rw [hq]
    rw [e] at hp
    exact wss_one (ws_retE (ee_if (k := false) (ET.is (et_w (ew_and (l := true) (et_cmp (ee_callB (ea_cons (ee_var (i := 2) rfl) ea_nil) (fun m => by walk_at "ca") T.m_len bo_len) ee_int (by walk_at "cd")) (fun hk => absurd hk (by simp <;> omega)))) (by simp <;> omega)) (fun h => by cases h) (fun _ => ee_non)) hp)
theorem ok__law_code_told (T : Tx K mg) : FnG P w K mg base CX0 3 T.a__law_code_told T.d__law_code_told ["cells"] (SpD K (pureF R__law_code_told)) := by
  refine fnD_ok T.F__law_code_told sc__law_code_told (fun xs m Pp ⟨d, h, _⟩ => by cases h; rfl) (fun cdv A outer s H E rm xs m Pp ⟨d, hR, hp⟩ => ?_)
  cases hR with | @mk ws ho hl =>
  refine wss_cons (ws_new (i := 1) sc__law_code_told.nd fun p hpf => ?_)
  refine wss_cons (ws_for (js := [2, 3]) (((ei_tup (ee_tup (eap_cons (ee_tup (eap_cons ee_int (eap_cons ee_int eap_nil))) (eap_cons (ee_tup (eap_cons ee_int (eap_cons ee_int eap_nil))) eap_nil))))).to ⟨fun i ds' m' => ∃ y3 y4 y5, (∀ j, j < i → cnd ws j) ∧ ds' = [some (C ws), some (.raw (.ref p)), y3, y4, y5] ∧ m' = (p, .dl ((List.range i).map fun j => PyData.int (nums ws j : Nat))) :: m, ⟨none, none, none, (fun j hj => absurd hj (Nat.not_lt_zero j)), rfl, rfl⟩, ?_, ?_⟩))
  · rintro i x ds' m' hx ⟨y3, y4, y5, hc, rfl, rfl⟩
    obtain ⟨hi, rfl⟩ := wk_get2 hx
    have hb := atw_le (i := i) (by omega)
    refine wg_tup (wgs_cons (wg_name (wgs_cons (wg_name (wgs_nil ?_) sc__law_code_told.nd)) sc__law_code_told.nd))
    refine wss_cons (ws_setE (i := 4) sc__law_code_told.nd (EE.is (ee_slice (ee_var (i := 0) rfl) (eo_some (ee_var (i := 2) rfl)) (eo_some (ee_bin (ee_var (i := 2) rfl) (ee_var (i := 3) rfl) (by walk_at "bd"))) (fun m => by walk_at "sl")) (C_eq (b := told ws i) ((cut_nat (a := atw i) (b := atw i + wk i) ws rfl (by omega)).trans (by rw [Nat.add_sub_cancel_left])))) ?_)
    have hlen : (told ws i).length ≤ 7 := by rw [List.length_take]; omega
    have hok : Ok (told ws i) := (ho.dp _).tk _
    have ec : cut ws (some ((atw i : Nat) + (wk i : Nat) : Int)) (some ((atw i : Nat) + 2 * (wk i : Nat) : Int)) = (ws.drop (atw i + wk i)).take (wk i) := (cut_nat (a := atw i + wk i) (b := atw i + 2 * wk i) ws (by omega) (by omega)).trans (by congr 1; omega)
    refine wss_cons (ws_appH (d := .int (nums ws i : Nat)) hpf (ee_var (i := 1) rfl) (eg_call (ok__law_code_number T) (rm.mono (by decide)) T.m__law_code_number T.F__law_code_number.kp T.b__law_code_number (ea_cons (ee_var (i := 4) rfl) ea_nil) (by walk_at "call _law_code_number")) (by rw [List.length_map, List.length_range]; omega) ?_)
    refine wss_one (ws_ife (et_cmp (ee_slice (ee_var (i := 0) rfl) (eo_some (ee_bin (ee_var (i := 2) rfl) (ee_var (i := 3) rfl) (by walk_at "bd"))) (eo_some (ee_bin (ee_var (i := 2) rfl) (ee_bin ee_int (ee_var (i := 3) rfl) (by walk_at "bd")) (by walk_at "bd"))) (fun m => by walk_at "sl")) (eg_call (ok__law_code_turned T) (rm.mono (by decide)) T.m__law_code_turned T.F__law_code_turned.kp T.b__law_code_turned (ea_cons (ee_var (i := 4) rfl) ea_nil) (by walk_at "call _law_code_turned")) (by walk_at "cd")) (fun h => ?_) fun h => ?_)
    · have hn : ¬ cnd ws i := fun z => by
        rw [ec, Bool.not_eq_true', decide_eq_false_iff_not] at h
        exact h z.symm
      rw [told2_no hi hn] at hp
      exact wss_drop (wss_one (ws_retE ee_non hp))
    · have hy : cnd ws i := by
        rw [ec, Bool.not_eq_false', decide_eq_true_eq] at h
        exact h.symm
      refine wss_nil ⟨_, _, _, ?_, rfl, ?_⟩
      · intro j hj
        by_cases e : j = i
        · rw [e]; exact hy
        · exact hc j (by omega)
      · rw [List.range_succ, List.map_append]
        rfl
  · rintro ds' m' ⟨y3, y4, y5, hc, rfl, rfl⟩
    refine wss_seal (i := 1) rfl (wss_one (ws_retE (EE.is (ee_var (i := 1) rfl) ?_) hp))
    rw [told2_yes hc]
    rfl
theorem ok__law_code_lifted (T : Tx K mg) : FnG P w K mg base CX0 4 T.a__law_code_lifted T.d__law_code_lifted ["cells"] (SpD K (pureF R__law_code_lifted)) := by
  refine fnD_ok T.F__law_code_lifted sc__law_code_lifted (fun xs m Pp ⟨d, h, _⟩ => by cases h; rfl) (fun cdv A outer s H E rm xs m Pp ⟨d, hR, hp⟩ => ?_)
  cases hR with | @mk ws ho hl =>
  rcases e : told2 ws with _ | ⟨a, b⟩
  · refine wss_cons (ws_par (i := 1) (j := 2) sc__law_code_lifted.nd (EA.to (ea_cons (EE.is (eg_call (ok__law_code_told T) (rm.mono (by decide)) T.m__law_code_told T.F__law_code_told.kp T.b__law_code_told (ea_cons (ee_var (i := 0) rfl) ea_nil) (by walk_at "call _law_code_told")) (show _ = N0 by rw [e]; rfl)) (ea_cons (eg_call (ok__law_code_sums T) (rm.mono (by decide)) T.m__law_code_sums T.F__law_code_sums.kp T.b__law_code_sums (ea_cons (ee_var (i := 0) rfl) ea_nil) (by walk_at "call _law_code_sums")) ea_nil)) ⟨_, _, rfl, ?_⟩))
    have el : lifP ws = .none := by unfold lifP; rw [lift_no0 e]
    rw [el] at hp
    exact wss_cons (ws_ife (k := true) (ET.is (et_w (ew_or (l := true) (et_cmp (ee_var (i := 1) rfl) ee_non (by walk_at "cd")) (fun hk => by cases hk))) rfl) (fun _ => wss_one (ws_retE ee_non hp)) fun h => by cases h)
  · refine wss_cons (ws_par (i := 1) (j := 2) sc__law_code_lifted.nd (EA.to (ea_cons (EE.is (eg_call (ok__law_code_told T) (rm.mono (by decide)) T.m__law_code_told T.F__law_code_told.kp T.b__law_code_told (ea_cons (ee_var (i := 0) rfl) ea_nil) (by walk_at "call _law_code_told")) (show _ = Ls [.int a, .int b] by rw [e]; rfl)) (ea_cons (eg_call (ok__law_code_sums T) (rm.mono (by decide)) T.m__law_code_sums T.F__law_code_sums.kp T.b__law_code_sums (ea_cons (ee_var (i := 0) rfl) ea_nil) (by walk_at "call _law_code_sums")) ea_nil)) ⟨_, _, rfl, ?_⟩))
    have hs0 := s0_lt ws
    refine wss_cons (ws_ife (et_w (ew_or (et_cmp (ee_var (i := 1) rfl) ee_non (by walk_at "cd")) (fun hk => (ew_or1 (et_not (we_chain ee_int (ee_bin (ee_sub (ee_var (i := 2) rfl) ee_int (fun m => by walk_at "sd")) (ee_sub (ee_var (i := 1) rfl) ee_int (fun m => by walk_at "sd")) (by walk_at "bd")) ee_int (by walk_at "cd") (by walk_at "cd") rfl).2))))) (fun h => ?_) fun h => wss_nil ?_)
    · have el : lifP ws = .none := by
        unfold lifP
        rw [lift_no e fun z => by
          rw [Bool.or_eq_true, Bool.not_eq_true', Bool.and_eq_false_iff, decide_eq_false_iff_not, decide_eq_false_iff_not] at h
          rcases h with h | h | h
          · cases h
          · exact h z.1
          · exact h z.2]
      rw [el] at hp
      exact wss_one (ws_retE ee_non hp)
    · have h1 : 1 ≤ (s0 ws : Int) - a ∧ (s0 ws : Int) - a ≤ 15 := by
        rw [Bool.or_eq_false_iff, Bool.not_eq_false', Bool.and_eq_true, decide_eq_true_eq, decide_eq_true_eq] at h
        exact h.2
      refine wss_cons (ws_par (i := 3) (j := 4) sc__law_code_lifted.nd (((ea_cons (ee_bin (ee_sub (ee_var (i := 2) rfl) ee_int (fun m => by walk_at "sd")) (ee_sub (ee_var (i := 1) rfl) ee_int (fun m => by walk_at "sd")) (by walk_at "bd")) (ea_cons (ee_bin (ee_sub (ee_var (i := 2) rfl) ee_int (fun m => by walk_at "sd")) (ee_sub (ee_var (i := 1) rfl) ee_int (fun m => by walk_at "sd")) (by walk_at "bd")) ea_nil))).to ⟨_, _, rfl, ?_⟩))
      refine wss_cons (ws_setE (i := 5) sc__law_code_lifted.nd (ee_bin (ee_bin (ee_var (i := 4) rfl) (ee_var (i := 3) rfl) (by walk_at "bd")) ee_int (by walk_at "bd")) ?_)
      refine wss_cons (ws_ife (et_w (ew_or (et_not (we_chain ee_int (ee_var (i := 5) rfl) ee_int (by walk_at "cd") (by walk_at "cd") rfl).2) (fun hk => (ew_or (et_cmp (ee_var (i := 4) rfl) (ee_bin (ee_var (i := 3) rfl) (ee_bin (ee_var (i := 5) rfl) ee_int (by walk_at "bd")) (by walk_at "bd")) (by walk_at "cd")) (fun hk => (ew_or1 (et_cmp (ee_bin (eg_call (ok__law_code_worth T) (rm.mono (by decide)) T.m__law_code_worth T.F__law_code_worth.kp T.b__law_code_worth (ea_cons (ee_sub (ee_var (i := 0) rfl) (ee_var (i := 5) rfl) (fun m => by walk_at "sd")) ea_nil) (by walk_at "call _law_code_worth")) (ee_var (i := 3) rfl) (by walk_at "bd")) ee_int (by walk_at "cd")))))))) (fun h => ?_) fun h => wss_nil ?_)
      · have el : lifP ws = .none := by
          unfold lifP
          rw [lift_no2 e ?_]
          rw [Bool.or_eq_true, Bool.or_eq_true] at h
          rcases h with h | h | h
          · left
            rw [Bool.not_eq_true', Bool.and_eq_false_iff, decide_eq_false_iff_not, decide_eq_false_iff_not] at h
            exact fun z => h.elim (fun y => y z.1) fun y => y z.2
          · right; left
            rw [Bool.not_eq_true', decide_eq_false_iff_not] at h
            exact h
          · right; right
            exact of_decide_eq_true h
        rw [el] at hp
        exact wss_one (ws_retE ee_non hp)
      · rw [Bool.or_eq_false_iff, Bool.or_eq_false_iff] at h
        obtain ⟨q1, q2, q3⟩ := h
        have r1 := rng_of q1
        rw [Bool.not_eq_false', decide_eq_true_eq] at q2
        rw [decide_eq_false_iff_not] at q3
        have el := lift_yes e h1 r1 q2 (by omega)
        have el2 : lifP ws = .str ⟨((lifted ws (((s1 ws : Int) - b) / ((s0 ws : Int) - a) - 1).toNat).map dig).toArray⟩ := by unfold lifP; rw [el]
        rw [el2] at hp
        have hw : w0 ws (((s1 ws : Int) - b) / ((s0 ws : Int) - a) - 1).toNat + ((s0 ws : Int) - a) ≤ 15 := by omega
        generalize hat : ((s1 ws : Int) - b) / ((s0 ws : Int) - a) - 1 = at_ at *
        have hby : (by2 ws : Int) = (s0 ws : Int) - a := by
          have := told2_a e
          unfold by2
          omega
        have hc1 : (cut ws none (some at_)).length ≤ 256 := cut_le (by omega)
        have hc2 : (cut ws (some (at_ + 1)) none).length ≤ 256 := cut_le (by omega)
        have hv : cut ws none (some at_) ++ [((w0 ws at_.toNat : Int) + ((s0 ws : Int) - a)).toNat] ++ cut ws (some (at_ + 1)) none = lifted ws at_.toNat := by
          rw [set_cut (p := at_.toNat) (by omega) (by omega) (by omega)]
          unfold lifted
          congr 1
          omega
        exact wss_one (ws_retE (EE.is (ee_bin (ee_bin (ee_slice (ee_var (i := 0) rfl) eo_none (eo_some (ee_var (i := 5) rfl)) (fun m => by walk_at "sl")) (ee_sub (ee_strS (l := [48, 49, 50, 51, 52, 53, 54, 55, 56, 57, 97, 98, 99, 100, 101, 102])) (ee_bin (eg_call (ok__law_code_worth T) (rm.mono (by decide)) T.m__law_code_worth T.F__law_code_worth.kp T.b__law_code_worth (ea_cons (ee_sub (ee_var (i := 0) rfl) (ee_var (i := 5) rfl) (fun m => by walk_at "sd")) ea_nil) (by walk_at "call _law_code_worth")) (ee_var (i := 3) rfl) (by walk_at "bd")) (fun m => by walk_at "sd")) (by walk_at "bd")) (ee_slice (ee_var (i := 0) rfl) (eo_some (ee_bin (ee_var (i := 5) rfl) ee_int (by walk_at "bd"))) eo_none (fun m => by walk_at "sl")) (by walk_at "bd")) (C_eq hv)) hp)
theorem heads_get {ws : List Nat} (ho : Ok ws) (hl : ws.length = 256) {h2 : List Nat} (hh : h2 = match lift2 ws with | none => [] | some p => (lifted ws p).take 226) {i : Nat} {x : SD} (h : ([PyData.str ⟨((ws.take 226).map dig).toArray⟩, .str ⟨(h2.map dig).toArray⟩].map SD.py)[i]? = some x) :
    i < 2 ∧ ∃ hs, x = C hs ∧ ((hs = [] ∧ (if i = 0 then dec ws else ((lift2 ws).bind fun p => dec (lifted ws p))) = none) ∨ (hs ≠ [] ∧ Ok hs ∧ hs.length = 226 ∧ (if i = 0 then dec ws else ((lift2 ws).bind fun p => dec (lifted ws p))) = dec hs)) := by
  match i, h with
  | 0, h =>
    cases h
    have hlen : (ws.take 226).length = 226 := by rw [List.length_take]; omega
    exact ⟨by decide, _, rfl, .inr ⟨fun z => (by rw [z] at hlen; cases hlen), ho.tk _, hlen, (dec_take ws).symm⟩⟩
  | 1, h =>
    cases h
    refine ⟨by decide, h2, rfl, ?_⟩
    cases e : lift2 ws with
    | none =>
      rw [e] at hh
      exact .inl ⟨hh, rfl⟩
    | some p =>
      rw [e] at hh
      have hh : h2 = (lifted ws p).take 226 := hh
      obtain ⟨a, b, _, hp, hd, hw, _⟩ := lift_some e
      have hL := lifted_len ho hl p
      have hlen : ((lifted ws p).take 226).length = 226 := by rw [List.length_take, hL]; rfl
      rw [hh]
      exact .inr ⟨fun z => (by rw [z] at hlen; cases hlen), (raise_ok ho hw : Ok (lifted ws p)).tk _, hlen, (dec_take (lifted ws p)).symm⟩
  | i + 2, h => simp at h
end
end K08
end W9
namespace W9
namespace K08
open PySem PySem.Spec PyProof.Rows L2
local macro_rules | `(tactic| walk_at "lt") => `(tactic| first | assumption | exact w0_lt (by assumption) _ | exact w0_lt (sealT_ok _) _ | omega | exact Ok.get (by assumption) (by assumption) | exact (by assumption : Ok _) _ (by assumption))
local macro_rules | `(tactic| walk_at "sz") => `(tactic| first | assumption | omega | decide | (simp only [List.length_append, List.length_map]; omega) | (simp only [List.length_append, List.length_take, List.length_drop, List.length_map, List.length_replicate, List.length_range, List.length_cons, List.length_nil, digs_length, tw_length, enc_length, rep_length, tailOf_length]; omega))
local macro_rules | `(tactic| walk_at "ok") => `(tactic| first | assumption | exact Ok.tk _ (by assumption) | exact Ok.dp _ (by assumption) | exact Ok.tk _ (Ok.dp _ (by assumption)) | exact digs_ok _ _ | exact cmpl_ok | exact cellsOf_ok _ | exact sealT_ok _ | exact cut_ok (by assumption) _ _ | exact rep_ok (by decide) | exact Ok.nil | exact Ok.one (w0_lt (by assumption) _) | exact Ok.one (w0_lt (sealT_ok _) _) | exact Ok.one (by decide) | exact Ok.app (Ok.one (by decide)) (Ok.one (by decide)))
local macro_rules | `(tactic| walk_at "bd") => `(tactic| first | exact bd_add | exact bd_sub | exact bd_mul (by omega) | exact bd_mul (by have := rng_of (by assumption); omega) | exact bd_mod (by omega) | exact bd_pow (by omega) | exact bd_powX (by decide +kernel) | exact bd_mod (by decide +kernel) | exact bd_mulB | exact bd_mod (by have := of_decide_eq_false (by assumption); omega) | exact bd_div (by omega) | exact bd_addC (by walk_at "sz") | exact bd_mulC (by walk_at "sz") | exact bd_mulC ⟨by decide, by decide, by assumption⟩ | exact bd_addS (by walk_at "sz") | exact bd_catL (by walk_at "sz"))
local macro_rules | `(tactic| walk_at "cd") => `(tactic| first | exact cd_lt | exact cd_ltC (by walk_at "lt") (by walk_at "lt") | exact cd_le | exact cd_gt | exact cd_ge | exact cd_eq | exact cd_ne | exact cd_eqC (by walk_at "ok") (by walk_at "ok") | exact cd_neC (by walk_at "ok") (by walk_at "ok") | exact cd_inHex (by walk_at "lt") | exact cd_inS | exact cd_isN | exact cd_notN | exact cd_eqS | exact cd_neS)
local macro_rules | `(tactic| walk_at "md") => `(tactic| first | exact md_hex (by walk_at "lt") | exact md_joinC1 (by walk_at "sz") | exact md_joinCf (f := digs 2) (k := 2) (fun _ _ => by rw [digs_length]; decide) (by walk_at "sz") | exact md_joinS (by walk_at "sz") | exact md_index (low_occ _ (by omega) (by omega) (by omega)) | exact md_index (high_occ _ (by omega) (by omega) (by omega)))
local macro_rules | `(tactic| walk_at "sd") => `(tactic| first | exact sd_hexM | exact sd_hexT (by walk_at "lt") | exact sd_C (by assumption) (by walk_at "sz") | exact sd_C (w0_get (by omega)) (by walk_at "sz") | exact sd_Ci (by have := rng_of (by assumption); omega) (w0_get (by have := rng_of (by assumption); omega)) (by walk_at "sz") | exact sd_Ci (by omega) (w0_get (by omega)) (by walk_at "sz") | exact sd_C (w0_get (Nat.lt_of_lt_of_le ((by assumption : ∀ a, a ∈ _ → a < 256) _ (by assumption)) (Nat.le_of_eq (Eq.symm (by assumption))))) (by walk_at "sz") | exact sd_hexN (by omega) (by omega) | exact sd_ints (l := [2147483647, 2147483629, 2147483587, 2147483579, 2147483563]) (by omega) (by simp only [List.length_cons, List.length_nil]; omega) | exact sd_lst rfl | exact sd_tup rfl | exact sd_low (by omega) | exact sd_high (by omega))
local macro_rules | `(tactic| walk_at "sl") => `(tactic| first | exact sl_C0n (b := 226) (by walk_at "sz") | exact sl_C0n (b := 226) (by walk_at "sz") | exact sl_Cn0 (a := 226) (by walk_at "sz") | exact sl_C (by walk_at "sz") | exact sl_L)
local macro_rules | `(tactic| walk_at "rg") => `(tactic| first | exact rg_pairs | omega)
local macro_rules | `(tactic| walk_at "ca") => `(tactic| first | exact ca_isiStr | exact ca_lenC (by walk_at "sz") | exact ca_allm rfl | exact ca_lenS (by walk_at "sz") | exact ca_lenL | exact ca_lenT | exact ca_tupL | exact ca_ord | exact ca_int | exact ca_intB | exact ca_abs | exact ca_max2 rfl | exact ca_min2 rfl | exact ca_listS rfl (by walk_at "sz"))
local macro_rules | `(tactic| walk_at "call cell_number") => `(tactic| exact .mk (by walk_at "lt"))
local macro_rules | `(tactic| walk_at "call number_in_cells") => `(tactic| exact .mk (by walk_at "ok"))
local macro_rules | `(tactic| walk_at "call cells_of_number") => `(tactic| first | exact .mk (k := 2) (by decide) | exact .mk (by walk_at "sz"))
local macro_rules | `(tactic| walk_at "call contrary") => `(tactic| exact .mk (by walk_at "ok") (by walk_at "sz"))
local macro_rules | `(tactic| walk_at "call sums_of") => `(tactic| exact .mk (by walk_at "ok") (by walk_at "sz"))
local macro_rules | `(tactic| walk_at "call sum_cells") => `(tactic| exact .mk)
local macro_rules | `(tactic| walk_at "call sign_number") => `(tactic| first | exact .mk (by assumption) | exact .mk ((by assumption : OkT _) _ (by assumption)))
local macro_rules | `(tactic| walk_at "call sign_of") => `(tactic| exact .mk (by assumption))
local macro_rules | `(tactic| walk_at "call is_page_text") => `(tactic| exact .mk (by assumption) (by assumption))
local macro_rules | `(tactic| walk_at "call text_cells") => `(tactic| exact .mk (by assumption) (by assumption))
local macro_rules | `(tactic| walk_at "fl") => `(tactic| first | rfl | exact int_ne255 | simp)
local macro_rules | `(tactic| walk_at "call signs_in") => `(tactic| exact .mk (by walk_at "ok") (by walk_at "sz") (by walk_at "sz"))
local macro_rules | `(tactic| walk_at "call sealed_page") => `(tactic| exact .mk (by assumption) (by assumption))
local macro_rules | `(tactic| walk_at "call told_sums") => `(tactic| exact .mk (by walk_at "ok") (by walk_at "sz"))
local macro_rules | `(tactic| walk_at "call fallen_in_text") => `(tactic| exact .mk (by walk_at "ok") (by walk_at "sz"))
local macro_rules | `(tactic| walk_at "call fallen_in_sums") => `(tactic| exact .mk (by walk_at "ok") (by walk_at "sz"))
local macro_rules | `(tactic| walk_at "call are_cells") => `(tactic| exact .mk (by walk_at "ok") (by walk_at "sz"))
local macro_rules | `(tactic| walk_at "call is_page") => `(tactic| exact .mk (by walk_at "ok") (by walk_at "sz"))
local macro_rules | `(tactic| walk_at "call _law_code_worth") => `(tactic| exact .mk (by walk_at "lt"))
local macro_rules | `(tactic| walk_at "call _law_code_number") => `(tactic| exact .mk (by walk_at "ok"))
local macro_rules | `(tactic| walk_at "call _law_code_figures") => `(tactic| first | exact .mk (k := 2) (by decide) | exact .mk (by walk_at "sz"))
local macro_rules | `(tactic| walk_at "call _law_code_turned") => `(tactic| exact .mk (by walk_at "ok") (by walk_at "sz"))
local macro_rules | `(tactic| walk_at "call _law_code_sums") => `(tactic| exact .mk (by walk_at "ok") (by walk_at "sz"))
local macro_rules | `(tactic| walk_at "call _law_code_tail") => `(tactic| exact .mk (by walk_at "ok") (by walk_at "sz"))
local macro_rules | `(tactic| walk_at "call _law_code_signs") => `(tactic| exact .mk)
local macro_rules | `(tactic| walk_at "call _law_code_unlike") => `(tactic| exact .mk (by walk_at "ok") (by walk_at "sz") (by walk_at "ok") (by walk_at "sz"))
local macro_rules | `(tactic| walk_at "call _law_code_fallen") => `(tactic| exact .mk (by walk_at "ok") (by walk_at "sz") (by walk_at "ok") (by walk_at "sz"))
local macro_rules | `(tactic| walk_at "call _law_code_sealed") => `(tactic| exact .mk (by assumption) (by assumption))
local macro_rules | `(tactic| walk_at "call _law_code_text") => `(tactic| exact .mk (by walk_at "ok") (by walk_at "sz"))
local macro_rules | `(tactic| walk_at "call _law_code_told") => `(tactic| exact .mk (by walk_at "ok") (by walk_at "sz"))
local macro_rules | `(tactic| walk_at "call _law_code_lifted") => `(tactic| exact .mk (by walk_at "ok") (by walk_at "sz"))
local macro_rules | `(tactic| walk_at "call _law_code_opened") => `(tactic| exact .mk (by walk_at "ok") (by walk_at "sz"))
local macro_rules | `(tactic| walk_at "rep") => `(tactic| assumption)
local macro_rules | `(tactic| walk_at "call sums") => `(tactic| exact .mk (by walk_at "ok") (by walk_at "sz"))
local macro_rules | `(tactic| walk_at "call opened") => `(tactic| exact .mk (by walk_at "ok") (by walk_at "sz"))
local macro_rules | `(tactic| walk_at "call _law_cells") => `(tactic| exact .mk)

section
variable {P : Program} {w : World} {K : PySem.W.Frag} {mg : Str → Option Value} {base : Heap}
theorem tryH_n {ws t : List Nat} (h : ¬ sealT t = ws) (e : fal ws (sealT t) = none) : tryH ws (some t) = none := by
  unfold tryH
  dsimp only
  rw [if_neg h, e]
  rfl
theorem tryH_s {ws t : List Nat} {p : Nat} (h : ¬ sealT t = ws) (e : fal ws (sealT t) = some p) : tryH ws (some t) = some (.tuple [tx nM, tx t, .int p]) := by
  unfold tryH
  dsimp only
  rw [if_neg h, e]
  rfl
theorem lo_at {ws : List Nat} (hE : ¬ ws = List.replicate 256 15) {i : Nat} (hi : i < 2) (hn : ∀ j, j < i → tryH ws (if j = 0 then dec ws else ((lift2 ws).bind fun p => dec (lifted ws p))) = none) {r : PyData} (h : tryH ws (if i = 0 then dec ws else ((lift2 ws).bind fun p => dec (lifted ws p))) = some r) : lo ws = r := by
  unfold lo
  rw [if_neg hE]
  match i, hi with
  | 0, _ =>
    have h : tryH ws (dec ws) = some r := h
    rw [h]
  | 1, _ =>
    have h0 : tryH ws (dec ws) = none := hn 0 (by decide)
    have h : tryH ws ((lift2 ws).bind fun p => dec (lifted ws p)) = some r := h
    rw [h0, h]
theorem lo_end {ws : List Nat} (hE : ¬ ws = List.replicate 256 15) (hn : ∀ j, j < 2 → tryH ws (if j = 0 then dec ws else ((lift2 ws).bind fun p => dec (lifted ws p))) = none) : lo ws = .tuple [tx nT] := by
  unfold lo
  rw [if_neg hE]
  have h0 : tryH ws (dec ws) = none := hn 0 (by decide)
  have h1 : tryH ws ((lift2 ws).bind fun p => dec (lifted ws p)) = none := hn 1 (by decide)
  rw [h0, h1]
theorem none_up {ws : List Nat} {i : Nat} (hn : ∀ j, j < i → tryH ws (if j = 0 then dec ws else ((lift2 ws).bind fun p => dec (lifted ws p))) = none) (h : tryH ws (if i = 0 then dec ws else ((lift2 ws).bind fun p => dec (lifted ws p))) = none) :
    ∀ j, j < i + 1 → tryH ws (if j = 0 then dec ws else ((lift2 ws).bind fun p => dec (lifted ws p))) = none := fun j hj => by
  by_cases e : j = i
  · rw [e]; exact h
  · exact hn j (by omega)
theorem ok__law_code_opened (T : Tx K mg) : FnG P w K mg base CX0 5 T.a__law_code_opened T.d__law_code_opened ["cells"] (SpD K (pureF R__law_code_opened)) := by
  refine fnD_ok T.F__law_code_opened sc__law_code_opened (fun xs m Pp ⟨d, h, _⟩ => by cases h; rfl) (fun cdv A outer s H E rm xs m Pp ⟨d, hR, hp⟩ => ?_)
  cases hR with | @mk ws ho hl =>
  have er : rep (256 : Int).toNat [15] = List.replicate 256 15 := by rw [rep_one]; rfl
  by_cases hE : ws = List.replicate 256 15
  · have e : lo ws = .tuple [tx nE] := if_pos hE
    rw [e] at hp
    exact wss_cons (ws_ife (k := true) (ET.is (et_cmp (ee_var (i := 0) rfl) (ee_bin (EE.is (ee_strS (l := [102])) (show S [102] = C [15] from rfl)) ee_int (by walk_at "bd")) (by walk_at "cd")) (by rw [er]; exact decide_eq_true hE)) (fun _ => wss_one (ws_retE (ee_tup (eap_cons (ee_strS (l := [101, 109, 112, 116, 121])) eap_nil)) hp)) fun h => by cases h)
  · refine wss_cons (ws_ife (k := false) (ET.is (et_cmp (ee_var (i := 0) rfl) (ee_bin (EE.is (ee_strS (l := [102])) (show S [102] = C [15] from rfl)) ee_int (by walk_at "bd")) (by walk_at "cd")) (by rw [er]; exact decide_eq_false hE)) (fun h => by cases h) fun _ => wss_nil ?_)
    refine wss_cons (ws_setE (i := 1) sc__law_code_opened.nd (eg_call (ok__law_code_lifted T) (rm.mono (by decide)) T.m__law_code_lifted T.F__law_code_lifted.kp T.b__law_code_lifted (ea_cons (ee_var (i := 0) rfl) ea_nil) (by walk_at "call _law_code_lifted")) ?_)
    refine wss_cons (ws_for (js := [2]) (EI.to (xs := [PyData.str ⟨((ws.take 226).map dig).toArray⟩, .str ⟨((match lift2 ws with | none => [] | some p => (lifted ws p).take 226 : List Nat).map dig).toArray⟩].map SD.py)
      (ei_tup (ee_tup (eap_cons (ee_slice (ee_var (i := 0) rfl) eo_none (eo_some ee_int) (fun m => by walk_at "sl")) (eap_cons (ee_if (et_cmp (ee_var (i := 1) rfl) ee_non (by walk_at "cd")) (fun h => ?_) (fun h => ?_)) eap_nil)))) ⟨fun i ds' m' => ∃ y2 y3 y4, (∀ j, j < i → tryH ws (if j = 0 then dec ws else ((lift2 ws).bind fun p => dec (lifted ws p))) = none) ∧ ds' = [some (C ws), some (.py (lifP ws)), y2, y3, y4] ∧ m' = m, ⟨none, none, none, (fun j hj => absurd hj (Nat.not_lt_zero j)), rfl, rfl⟩, ?_, ?_⟩))
    · rcases e : lift2 ws with _ | p
      · exact EE.is (EE.is (ee_strS (l := [])) (show S [] = C [] from rfl)) rfl
      · unfold lifP at h
        rw [e] at h
        cases h
    · rcases e : lift2 ws with _ | p
      · unfold lifP at h
        rw [e] at h
        cases h
      · have hL := lifted_len ho hl p
        have e2 : lifP ws = .str ⟨((lifted ws p).map dig).toArray⟩ := by unfold lifP; rw [e]
        exact ee_slice (EE.is (ee_var (i := 1) rfl) (show SD.py (lifP ws) = C (lifted ws p) by rw [e2])) eo_none (eo_some ee_int) (fun m => sl_C0n (b := 226) (by omega))
    · rintro i x ds' m' hx ⟨y2, y3, y4, hn, rfl, rfl⟩
      obtain ⟨hi, hs, rfl, hh⟩ := heads_get ho hl rfl hx
      refine wg_name ?_ sc__law_code_opened.nd
      rcases hh with ⟨rfl, e0⟩ | ⟨hne, hok, hlen, e1⟩
      · refine wss_cons (ws_setE (i := 3) sc__law_code_opened.nd (d := N0) (ee_if (k := false) (ET.is (et_cmp (ee_var (i := 2) rfl) (EE.is (ee_strS (l := [])) (show S [] = C [] from rfl)) (by walk_at "cd")) (by simp)) (fun h => by cases h) (fun _ => ee_non)) ?_)
        refine wss_cons (ws_ife (k := false) (ET.is (et_w (ew_and (l := true) (et_cmp (ee_var (i := 3) rfl) ee_non (by walk_at "cd")) (fun hk => by cases hk))) rfl) (fun h => by cases h) fun _ => wss_nil ?_)
        refine wss_cons (ws_setE (i := 4) sc__law_code_opened.nd (d := N0) (ee_if (et_cmp (ee_var (i := 3) rfl) ee_non (by walk_at "cd")) (fun _ => ee_non) (fun h => by cases h)) ?_)
        refine wss_one (ws_ife (et_cmp (ee_var (i := 4) rfl) ee_non (by walk_at "cd")) (fun h => by cases h) fun _ => wss_nil ⟨_, _, _, none_up hn (by rw [e0]; rfl), rfl, rfl⟩)
      · rcases e2 : dec hs with _ | t
        · refine wss_cons (ws_setE (i := 3) sc__law_code_opened.nd (d := N0) (ee_if (k := true) (ET.is (et_cmp (ee_var (i := 2) rfl) (EE.is (ee_strS (l := [])) (show S [] = C [] from rfl)) (by walk_at "cd")) (by simp [hne])) (fun _ => EE.is (eg_call (ok__law_code_text T) (rm.mono (by decide)) T.m__law_code_text T.F__law_code_text.kp T.b__law_code_text (ea_cons (ee_var (i := 2) rfl) ea_nil) (by walk_at "call _law_code_text")) (by rw [e2]; rfl)) (fun h => by cases h)) ?_)
          refine wss_cons (ws_ife (k := false) (ET.is (et_w (ew_and (l := true) (et_cmp (ee_var (i := 3) rfl) ee_non (by walk_at "cd")) (fun hk => by cases hk))) rfl) (fun h => by cases h) fun _ => wss_nil ?_)
          refine wss_cons (ws_setE (i := 4) sc__law_code_opened.nd (d := N0) (ee_if (et_cmp (ee_var (i := 3) rfl) ee_non (by walk_at "cd")) (fun _ => ee_non) (fun h => by cases h)) ?_)
          refine wss_one (ws_ife (et_cmp (ee_var (i := 4) rfl) ee_non (by walk_at "cd")) (fun h => by cases h) fun _ => wss_nil ⟨_, _, _, none_up hn (by rw [e1, e2]; rfl), rfl, rfl⟩)
        · have ht := dec_okT e2
          have htl := dec_len (by omega) e2
          have hsl := sealT_length htl
          refine wss_cons (ws_setE (i := 3) sc__law_code_opened.nd (d := S t) (ee_if (k := true) (ET.is (et_cmp (ee_var (i := 2) rfl) (EE.is (ee_strS (l := [])) (show S [] = C [] from rfl)) (by walk_at "cd")) (by simp [hne])) (fun _ => EE.is (eg_call (ok__law_code_text T) (rm.mono (by decide)) T.m__law_code_text T.F__law_code_text.kp T.b__law_code_text (ea_cons (ee_var (i := 2) rfl) ea_nil) (by walk_at "call _law_code_text")) (by rw [e2]; rfl)) (fun h => by cases h)) ?_)
          by_cases hs1 : sealT t = ws
          · have e : lo ws = .tuple [tx nW, tx t] := lo_at hE hi hn (by rw [e1, e2]; exact if_pos hs1)
            rw [e] at hp
            exact wss_cons (ws_ife (k := true) (ET.is (et_w (ew_and (et_cmp (ee_var (i := 3) rfl) ee_non (by walk_at "cd")) (fun hk => (ew_and1 (et_cmp (eg_call (ok__law_code_sealed T) (rm.mono (by decide)) T.m__law_code_sealed T.F__law_code_sealed.kp T.b__law_code_sealed (ea_cons (ee_var (i := 3) rfl) ea_nil) (by walk_at "call _law_code_sealed")) (ee_var (i := 0) rfl) (by walk_at "cd")))))) (by rw [decide_eq_true hs1]; rfl)) (fun _ => wss_one (ws_retE (ee_tup (eap_cons (ee_strS (l := [119, 104, 111, 108, 101])) (eap_cons (ee_var (i := 3) rfl) eap_nil))) hp)) fun h => by cases h)
          · refine wss_cons (ws_ife (k := false) (ET.is (et_w (ew_and (et_cmp (ee_var (i := 3) rfl) ee_non (by walk_at "cd")) (fun hk => (ew_and1 (et_cmp (eg_call (ok__law_code_sealed T) (rm.mono (by decide)) T.m__law_code_sealed T.F__law_code_sealed.kp T.b__law_code_sealed (ea_cons (ee_var (i := 3) rfl) ea_nil) (by walk_at "call _law_code_sealed")) (ee_var (i := 0) rfl) (by walk_at "cd")))))) (by rw [decide_eq_false hs1]; rfl)) (fun h => by cases h) fun _ => wss_nil ?_)
            refine wss_cons (ws_setE (i := 4) sc__law_code_opened.nd (d := .py (falP (fal ws (sealT t)))) (ee_if (et_cmp (ee_var (i := 3) rfl) ee_non (by walk_at "cd")) (fun h => by cases h) (fun _ => (eg_call (ok__law_code_fallen T) (rm.mono (by decide)) T.m__law_code_fallen T.F__law_code_fallen.kp T.b__law_code_fallen (ea_cons (ee_var (i := 0) rfl) (ea_cons (eg_call (ok__law_code_sealed T) (rm.mono (by decide)) T.m__law_code_sealed T.F__law_code_sealed.kp T.b__law_code_sealed (ea_cons (ee_var (i := 3) rfl) ea_nil) (by walk_at "call _law_code_sealed")) ea_nil)) (by walk_at "call _law_code_fallen")))) ?_)
            rcases e3 : fal ws (sealT t) with _ | p
            · refine wss_one (ws_ife (et_cmp (ee_var (i := 4) rfl) ee_non (by walk_at "cd")) (fun h => by cases h) fun _ => wss_nil ⟨_, _, _, none_up hn ?_, rfl, rfl⟩)
              rw [e1, e2]
              exact tryH_n hs1 e3
            · have e : lo ws = .tuple [tx nM, tx t, .int p] := lo_at hE hi hn (by
                rw [e1, e2]
                exact tryH_s hs1 e3)
              rw [e] at hp
              exact wss_one (ws_ife (et_cmp (ee_var (i := 4) rfl) ee_non (by walk_at "cd")) (fun _ => wss_one (ws_retE (ee_tup (eap_cons (ee_strS (l := [109, 101, 110, 100, 101, 100])) (eap_cons (ee_var (i := 3) rfl) (eap_cons (ee_var (i := 4) rfl) eap_nil)))) hp)) fun h => by cases h)
    · rintro ds' m' ⟨y2, y3, y4, hn, rfl, rfl⟩
      rw [lo_end hE hn] at hp
      exact wss_one (ws_retE (ee_tup (eap_cons (ee_strS (l := [116, 111, 114, 110])) eap_nil)) hp)
end
end K08
end W9
namespace W9
namespace K08
open PySem PySem.Spec PyProof.Rows L2
local macro_rules | `(tactic| walk_at "lt") => `(tactic| first | assumption | exact w0_lt (by assumption) _ | exact w0_lt (sealT_ok _) _ | omega | exact Ok.get (by assumption) (by assumption) | exact (by assumption : Ok _) _ (by assumption))
local macro_rules | `(tactic| walk_at "sz") => `(tactic| first | assumption | omega | decide | (simp only [List.length_append, List.length_map]; omega) | (simp only [List.length_append, List.length_take, List.length_drop, List.length_map, List.length_replicate, List.length_range, List.length_cons, List.length_nil, digs_length, tw_length, enc_length, rep_length, tailOf_length]; omega))
local macro_rules | `(tactic| walk_at "ok") => `(tactic| first | assumption | exact Ok.tk _ (by assumption) | exact Ok.dp _ (by assumption) | exact Ok.tk _ (Ok.dp _ (by assumption)) | exact digs_ok _ _ | exact cmpl_ok | exact cellsOf_ok _ | exact sealT_ok _ | exact cut_ok (by assumption) _ _ | exact rep_ok (by decide) | exact Ok.nil | exact Ok.one (w0_lt (by assumption) _) | exact Ok.one (w0_lt (sealT_ok _) _) | exact Ok.one (by decide) | exact Ok.app (Ok.one (by decide)) (Ok.one (by decide)))
local macro_rules | `(tactic| walk_at "bd") => `(tactic| first | exact bd_add | exact bd_sub | exact bd_mul (by omega) | exact bd_mul (by have := rng_of (by assumption); omega) | exact bd_mod (by omega) | exact bd_pow (by omega) | exact bd_powX (by decide +kernel) | exact bd_mod (by decide +kernel) | exact bd_mulB | exact bd_mod (by have := of_decide_eq_false (by assumption); omega) | exact bd_div (by omega) | exact bd_addC (by walk_at "sz") | exact bd_mulC (by walk_at "sz") | exact bd_mulC ⟨by decide, by decide, by assumption⟩ | exact bd_addS (by walk_at "sz") | exact bd_catL (by walk_at "sz"))
local macro_rules | `(tactic| walk_at "cd") => `(tactic| first | exact cd_lt | exact cd_ltC (by walk_at "lt") (by walk_at "lt") | exact cd_le | exact cd_gt | exact cd_ge | exact cd_eq | exact cd_ne | exact cd_eqC (by walk_at "ok") (by walk_at "ok") | exact cd_neC (by walk_at "ok") (by walk_at "ok") | exact cd_inHex (by walk_at "lt") | exact cd_inS | exact cd_isN | exact cd_notN | exact cd_eqS | exact cd_neS)
local macro_rules | `(tactic| walk_at "md") => `(tactic| first | exact md_hex (by walk_at "lt") | exact md_joinC1 (by walk_at "sz") | exact md_joinCf (f := digs 2) (k := 2) (fun _ _ => by rw [digs_length]; decide) (by walk_at "sz") | exact md_joinS (by walk_at "sz") | exact md_index (low_occ _ (by omega) (by omega) (by omega)) | exact md_index (high_occ _ (by omega) (by omega) (by omega)))
local macro_rules | `(tactic| walk_at "sd") => `(tactic| first | exact sd_hexM | exact sd_hexT (by walk_at "lt") | exact sd_C (by assumption) (by walk_at "sz") | exact sd_C (w0_get (by omega)) (by walk_at "sz") | exact sd_Ci (by have := rng_of (by assumption); omega) (w0_get (by have := rng_of (by assumption); omega)) (by walk_at "sz") | exact sd_Ci (by omega) (w0_get (by omega)) (by walk_at "sz") | exact sd_C (w0_get (Nat.lt_of_lt_of_le ((by assumption : ∀ a, a ∈ _ → a < 256) _ (by assumption)) (Nat.le_of_eq (Eq.symm (by assumption))))) (by walk_at "sz") | exact sd_hexN (by omega) (by omega) | exact sd_ints (l := [2147483647, 2147483629, 2147483587, 2147483579, 2147483563]) (by omega) (by simp only [List.length_cons, List.length_nil]; omega) | exact sd_lst rfl | exact sd_tup rfl | exact sd_low (by omega) | exact sd_high (by omega))
local macro_rules | `(tactic| walk_at "sl") => `(tactic| first | exact sl_C0n (b := 226) (by walk_at "sz") | exact sl_C0n (b := 226) (by walk_at "sz") | exact sl_Cn0 (a := 226) (by walk_at "sz") | exact sl_C (by walk_at "sz") | exact sl_L)
local macro_rules | `(tactic| walk_at "rg") => `(tactic| first | exact rg_pairs | omega)
local macro_rules | `(tactic| walk_at "ca") => `(tactic| first | exact ca_isiStr | exact ca_lenC (by walk_at "sz") | exact ca_allm rfl | exact ca_lenS (by walk_at "sz") | exact ca_lenL | exact ca_lenT | exact ca_tupL | exact ca_ord | exact ca_int | exact ca_intB | exact ca_abs | exact ca_max2 rfl | exact ca_min2 rfl | exact ca_listS rfl (by walk_at "sz"))
local macro_rules | `(tactic| walk_at "call cell_number") => `(tactic| exact .mk (by walk_at "lt"))
local macro_rules | `(tactic| walk_at "call number_in_cells") => `(tactic| exact .mk (by walk_at "ok"))
local macro_rules | `(tactic| walk_at "call cells_of_number") => `(tactic| first | exact .mk (k := 2) (by decide) | exact .mk (by walk_at "sz"))
local macro_rules | `(tactic| walk_at "call contrary") => `(tactic| exact .mk (by walk_at "ok") (by walk_at "sz"))
local macro_rules | `(tactic| walk_at "call sums_of") => `(tactic| exact .mk (by walk_at "ok") (by walk_at "sz"))
local macro_rules | `(tactic| walk_at "call sum_cells") => `(tactic| exact .mk)
local macro_rules | `(tactic| walk_at "call sign_number") => `(tactic| first | exact .mk (by assumption) | exact .mk ((by assumption : OkT _) _ (by assumption)))
local macro_rules | `(tactic| walk_at "call sign_of") => `(tactic| exact .mk (by assumption))
local macro_rules | `(tactic| walk_at "call is_page_text") => `(tactic| exact .mk (by assumption) (by assumption))
local macro_rules | `(tactic| walk_at "call text_cells") => `(tactic| exact .mk (by assumption) (by assumption))
local macro_rules | `(tactic| walk_at "fl") => `(tactic| first | rfl | exact int_ne255 | simp)
local macro_rules | `(tactic| walk_at "call signs_in") => `(tactic| exact .mk (by walk_at "ok") (by walk_at "sz") (by walk_at "sz"))
local macro_rules | `(tactic| walk_at "call sealed_page") => `(tactic| exact .mk (by assumption) (by assumption))
local macro_rules | `(tactic| walk_at "call told_sums") => `(tactic| exact .mk (by walk_at "ok") (by walk_at "sz"))
local macro_rules | `(tactic| walk_at "call fallen_in_text") => `(tactic| exact .mk (by walk_at "ok") (by walk_at "sz"))
local macro_rules | `(tactic| walk_at "call fallen_in_sums") => `(tactic| exact .mk (by walk_at "ok") (by walk_at "sz"))
local macro_rules | `(tactic| walk_at "call are_cells") => `(tactic| exact .mk (by walk_at "ok") (by walk_at "sz"))
local macro_rules | `(tactic| walk_at "call is_page") => `(tactic| exact .mk (by walk_at "ok") (by walk_at "sz"))
local macro_rules | `(tactic| walk_at "call _law_code_worth") => `(tactic| exact .mk (by walk_at "lt"))
local macro_rules | `(tactic| walk_at "call _law_code_number") => `(tactic| exact .mk (by walk_at "ok"))
local macro_rules | `(tactic| walk_at "call _law_code_figures") => `(tactic| first | exact .mk (k := 2) (by decide) | exact .mk (by walk_at "sz"))
local macro_rules | `(tactic| walk_at "call _law_code_turned") => `(tactic| exact .mk (by walk_at "ok") (by walk_at "sz"))
local macro_rules | `(tactic| walk_at "call _law_code_sums") => `(tactic| exact .mk (by walk_at "ok") (by walk_at "sz"))
local macro_rules | `(tactic| walk_at "call _law_code_tail") => `(tactic| exact .mk (by walk_at "ok") (by walk_at "sz"))
local macro_rules | `(tactic| walk_at "call _law_code_signs") => `(tactic| exact .mk)
local macro_rules | `(tactic| walk_at "call _law_code_unlike") => `(tactic| exact .mk (by walk_at "ok") (by walk_at "sz") (by walk_at "ok") (by walk_at "sz"))
local macro_rules | `(tactic| walk_at "call _law_code_fallen") => `(tactic| exact .mk (by walk_at "ok") (by walk_at "sz") (by walk_at "ok") (by walk_at "sz"))
local macro_rules | `(tactic| walk_at "call _law_code_sealed") => `(tactic| exact .mk (by assumption) (by assumption))
local macro_rules | `(tactic| walk_at "call _law_code_text") => `(tactic| exact .mk (by walk_at "ok") (by walk_at "sz"))
local macro_rules | `(tactic| walk_at "call _law_code_told") => `(tactic| exact .mk (by walk_at "ok") (by walk_at "sz"))
local macro_rules | `(tactic| walk_at "call _law_code_lifted") => `(tactic| exact .mk (by walk_at "ok") (by walk_at "sz"))
local macro_rules | `(tactic| walk_at "call _law_code_opened") => `(tactic| exact .mk (by walk_at "ok") (by walk_at "sz"))
local macro_rules | `(tactic| walk_at "rep") => `(tactic| assumption)
local macro_rules | `(tactic| walk_at "call sums") => `(tactic| exact .mk (by walk_at "ok") (by walk_at "sz"))
local macro_rules | `(tactic| walk_at "call opened") => `(tactic| exact .mk (by walk_at "ok") (by walk_at "sz"))
local macro_rules | `(tactic| walk_at "call _law_cells") => `(tactic| exact .mk)

inductive F__law_take : FT
  | mk {p : Addr} {a b c n : Int} {m : MS} {P : SD → MS → Prop} (ha : 0 ≤ a) (hb : PB b) (hc : 0 ≤ c ∧ c ≤ 100000) (hn : 0 < n ∧ n < 1073741824) (hpf : p ∉ ad m)
      (h : ∀ d a' c' : Int, (0 ≤ d ∧ d < n) → 0 ≤ a' → (0 ≤ c' ∧ c' ≤ c + 1) → P (I d) (Pt p a' b c' :: m)) : F__law_take [.raw (.ref p), I n] (Pt p a b c :: m) P
inductive F__law_of : FT
  | mk {p : Addr} {a b c : Int} {l : List PyData} {m : MS} {P : SD → MS → Prop} (ha : 0 ≤ a) (hb : PB b) (hc : 0 ≤ c ∧ c ≤ 100000) (hl : 0 < l.length ∧ l.length < 1000000) (hpf : p ∉ ad m)
      (h : ∀ (d : PyData) (a' c' : Int), d ∈ l → 0 ≤ a' → (0 ≤ c' ∧ c' ≤ c + 1) → P (.py d) (Pt p a' b c' :: m)) : F__law_of [.raw (.ref p), Ls l] (Pt p a b c :: m) P
inductive F__law_pot : FT
  | mk {ns : List Int} {k : Nat} {m : MS} {P : SD → MS → Prop} (hl : ns.length ≤ 63) (hk : k ≤ 1000) (h : ∀ (p : Addr) (a b : Int), p ∉ ad m → 0 ≤ a → PB b → P (.raw (.ref p)) (Pt p a b 0 :: m)) : F__law_pot [Ls (ns.map .int), I k] m P
section
variable {P : Program} {w : World} {K : PySem.W.Frag} {mg : Str → Option Value} {base : Heap}
theorem ok__law_take (T : Tx K mg) : FnG P w K mg base CX0 1 T.a__law_take T.d__law_take ["pot", "upto"] (SpD K F__law_take) := by
  refine fnD_ok T.F__law_take sc__law_take (fun xs m Pp h => by cases h; rfl) (fun cdv A outer s H E rm xs m Pp hF => ?_)
  cases hF with | @mk p a b c n m Pp ha hb hc hn hpf h =>
  refine wss_cons (ws_if (wt_view (i := 0) (l := [.int a, .int b, .int c]) rfl List.mem_cons_self (et_cmp (ee_sub (ee_var (i := 0) rfl) ee_int (fun m => by walk_at "sd")) ee_int (by walk_at "cd")) ?_))
  by_cases hpos : 0 < a
  · rw [if_pos (decide_eq_true hpos)]
    refine wss_cons (ws_set (i := 2) sc__law_take.nd (we_view (i := 0) (l := [.int a, .int b, .int c]) rfl List.mem_cons_self (ee_bin (ee_callTy (ea_cons (ee_sub (ee_var (i := 0) rfl) ee_int (fun m => by walk_at "sd")) ea_nil) (fun m => by walk_at "ca") T.m_int bo_int) (ee_var (i := 1) rfl) (by walk_at "bd")) sc_int ?_))
    refine wss_cons (ws_storeV (i := 0) (l := [.int a, .int b, .int c]) (j := 0) hpf rfl (ee_var (i := 0) rfl) ee_int (ee_bin (ee_sub (ee_var (i := 0) rfl) ee_int (fun m => by walk_at "sd")) (ee_var (i := 1) rfl) (by walk_at "bd")) sc_int (by decide) (by simp) ?_)
    exact wss_one (ws_retE (ee_var (i := 2) rfl) (h _ _ _ ⟨Int.emod_nonneg _ (by omega), Int.emod_lt_of_pos _ hn.1⟩ (Int.ediv_nonneg ha (by omega)) ⟨hc.1, by omega⟩))
  · rw [if_neg (by rw [decide_eq_true_eq]; exact hpos)]
    refine wss_nil (wss_cons (ws_storeV (i := 0) (l := [.int a, .int b, .int c]) (j := 2) hpf rfl (ee_var (i := 0) rfl) ee_int (ee_bin (ee_sub (ee_var (i := 0) rfl) ee_int (fun m => by walk_at "sd")) ee_int (by walk_at "bd")) sc_int (by decide) (by simp) ?_))
    refine wss_cons (ws_set (i := 3) sc__law_take.nd (we_view (i := 0) (l := [.int a, .int b, .int (c + 1)]) rfl List.mem_cons_self (ee_sub (ee_lst (eap_cons ee_int (eap_cons ee_int (eap_cons ee_int (eap_cons ee_int (eap_cons ee_int eap_nil)))))) (ee_bin (ee_callTy (ea_cons (ee_sub (ee_var (i := 0) rfl) ee_int (fun m => by walk_at "sd")) ea_nil) (fun m => by walk_at "ca") T.m_int bo_int) ee_int (by walk_at "bd")) (fun m => by walk_at "sd")) sc_int ?_))
    have hpr := prs_pos (c + 1)
    generalize prs.getD ((c + 1) % 5).toNat 0 = pr at *
    have hq := sq_le (k := 101319) (c := c + 1) (by decide) (by omega)
    obtain ⟨hb1, hb2⟩ := id hb
    refine wss_cons (ws_set (i := 4) sc__law_take.nd (we_view (i := 0) (l := [.int a, .int b, .int (c + 1)]) rfl List.mem_cons_self (ee_bin (ee_callTy (ea_cons (ee_bin (ee_callTy (ea_cons (ee_bin (ee_bin (ee_sub (ee_var (i := 0) rfl) ee_int (fun m => by walk_at "sd")) (ee_bin (ee_bin ee_int (ee_sub (ee_var (i := 0) rfl) ee_int (fun m => by walk_at "sd")) (by walk_at "bd")) (ee_sub (ee_var (i := 0) rfl) ee_int (fun m => by walk_at "sd")) (by walk_at "bd")) (by walk_at "bd")) ee_int (by walk_at "bd")) ea_nil) (fun m => by walk_at "ca") T.m_int bo_int) ee_int (by walk_at "bd")) ea_nil) (fun m => by walk_at "ca") T.m_int bo_int) (ee_var (i := 3) rfl) (by walk_at "bd")) sc_int ?_))
    generalize hbl : _ % pr = bl
    have hbl1 : 0 ≤ bl := by rw [← hbl]; exact Int.emod_nonneg _ (by omega)
    have hbl2 : bl < pr := by rw [← hbl]; exact Int.emod_lt_of_pos _ hpr.1
    refine wss_cons (ws_set (i := 4) sc__law_take.nd (we_view (i := 0) (l := [.int a, .int b, .int (c + 1)]) rfl List.mem_cons_self (ee_bin (ee_callTy (ea_cons (ee_bin (ee_var (i := 4) rfl) (ee_bin (ee_bin (ee_callTy (ea_cons (ee_var (i := 4) rfl) ea_nil) (fun m => by walk_at "ca") T.m_int bo_int) ee_int (by walk_at "bd")) (ee_bin ee_int (ee_sub (ee_var (i := 0) rfl) ee_int (fun m => by walk_at "sd")) (by walk_at "bd")) (by walk_at "bd")) (by walk_at "bd")) ea_nil) (fun m => by walk_at "ca") T.m_int bo_int) ee_int (by walk_at "bd")) sc_int ?_))
    exact wss_one (ws_retE (ee_bin (ee_callTy (ea_cons (ee_bin (ee_var (i := 4) rfl) ee_int (by walk_at "bd")) ea_nil) (fun m => by walk_at "ca") T.m_int bo_int) (ee_var (i := 1) rfl) (by walk_at "bd")) (h _ _ _ ⟨Int.emod_nonneg _ (by omega), Int.emod_lt_of_pos _ hn.1⟩ ha ⟨by omega, by omega⟩))
theorem ok__law_of (T : Tx K mg) : FnG P w K mg base CX0 2 T.a__law_of T.d__law_of ["pot", "some"] (SpD K F__law_of) := by
  refine fnD_ok T.F__law_of sc__law_of (fun xs m Pp h => by cases h; rfl) (fun cdv A outer s H E rm xs m Pp hF => ?_)
  cases hF with | @mk p a b c l m Pp ha hb hc hl hpf h =>
  exact wss_one (ws_ret (we_sub (EE.to (ee_var (i := 1) rfl) (wg_call (ok__law_take T) (rm.mono (by decide)) T.m__law_take T.F__law_take.kp T.b__law_take (EA.to (ea_cons (ee_var (i := 0) rfl) (ea_cons (ee_callB (ea_cons (ee_var (i := 1) rfl) ea_nil) (fun m => by walk_at "ca") T.m_len bo_len) ea_nil)) ⟨[], _, rfl, .mk ha hb hc ⟨by omega, by omega⟩ hpf fun d a' c' h1 h2 h3 => ⟨.py (l[d.toNat]'(by omega)), sd_lst (at_nn h1.1 (List.getElem?_eq_getElem _)), h _ _ _ (List.getElem_mem _) h2 h3⟩⟩)))))
theorem ok__law_pot (T : Tx K mg) : FnG P w K mg base CX0 1 T.a__law_pot T.d__law_pot ["script", "place"] (SpD K F__law_pot) := by
  refine fnD_ok T.F__law_pot sc__law_pot (fun xs m Pp h => by cases h; rfl) (fun cdv A outer s H E rm xs m Pp hF => ?_)
  cases hF with | @mk ns k m Pp hl hk h =>
  refine wss_cons (ws_setE (i := 2) sc__law_pot.nd (d := I (if k < ns.length then ns.getD k 0 else (cut ns none (some 1)).sum % 1000003 + 1761 * (k : Int) + 963))
    (ee_if (et_cmp (ee_var (i := 1) rfl) (ee_callB (ea_cons (ee_var (i := 0) rfl) ea_nil) (fun m => by walk_at "ca") T.m_len bo_len) (by walk_at "cd")) (fun hh => ?_) (fun hh => ?_)) ?_)
  · have h1 : k < ns.length := by
      have := of_decide_eq_true hh
      rw [List.length_map] at this
      omega
    refine EE.is (ee_sub (EE.is (ee_var (i := 0) rfl) rfl) (ee_var (i := 1) rfl) (fun m => sd_ints (l := ns) (by omega) (by omega))) ?_
    rw [if_pos h1, Int.toNat_natCast]
  · have h1 : ¬ k < ns.length := by
      have := of_decide_eq_false hh
      rw [List.length_map] at this
      omega
    refine EE.is (ee_bin (ee_bin (ee_bin (ee_callB (ea_cons (EE.is (d' := Ls ((cut ns none (some 1)).map .int)) (ee_slice (ee_var (i := 0) rfl) eo_none (eo_some ee_int) (fun m => by walk_at "sl")) (by rw [cut_map])) ea_nil) (fun m => ca_sum rfl) T.m_sum bo_sum) ee_int (by walk_at "bd")) (ee_bin ee_int (ee_var (i := 1) rfl) (by walk_at "bd")) (by walk_at "bd")) ee_int (by walk_at "bd")) ?_
    rw [if_neg h1]
  · generalize (if k < ns.length then ns.getD k 0 else (cut ns none (some 1)).sum % 1000003 + 1761 * (k : Int) + 963) = cell
    refine wss_cons (ws_setE (i := 3) sc__law_pot.nd (ee_bin (ee_bin (ee_callTy (ea_cons (ee_callB (ea_cons (ee_var (i := 2) rfl) ea_nil) (fun m => by walk_at "ca") T.m_abs bo_abs) ea_nil) (fun m => by walk_at "ca") T.m_int bo_int) (ee_bin (ee_bin ee_int ee_int (by walk_at "bd")) ee_int (by walk_at "bd")) (by walk_at "bd")) (ee_callTy (ea_cons (ee_cmp (ee_callB (ea_cons (ee_var (i := 2) rfl) ea_nil) (fun m => by walk_at "ca") T.m_abs bo_abs) (ee_bin ee_int ee_int (by walk_at "bd")) (by walk_at "cd")) ea_nil) (fun m => by walk_at "ca") T.m_int bo_int) (by walk_at "bd")) ?_)
    refine wss_cons (ws_setE (i := 4) sc__law_pot.nd (ee_bin (ee_callTy (ea_cons (ee_var (i := 2) rfl) ea_nil) (fun m => by walk_at "ca") T.m_int bo_int) ee_int (by walk_at "bd")) ?_)
    refine wss_one (ws_ret (we_lstN (EA.to ((ea_cons (ee_var (i := 3) rfl) (ea_cons (ee_bin (ee_callTy (ea_cons (ee_bin (ee_bin (ee_bin (ee_var (i := 4) rfl) ee_int (by walk_at "bd")) (ee_bin (ee_bin ee_int (ee_var (i := 1) rfl) (by walk_at "bd")) (ee_var (i := 1) rfl) (by walk_at "bd")) (by walk_at "bd")) ee_int (by walk_at "bd")) ea_nil) (fun m => by walk_at "ca") T.m_int bo_int) ee_int (by walk_at "bd")) (ea_cons ee_int ea_nil)))) ⟨[.int _, .int _, .int 0], rfl, by simp, fun p hpf => h p _ _ hpf ?_ ?_⟩)))
    · refine Int.mul_nonneg (Int.emod_nonneg _ (by decide +kernel)) ?_
      (repeat' split) <;> decide
    · exact ⟨Int.emod_nonneg _ (by decide), Int.emod_lt_of_pos _ (by decide)⟩
end
end K08
end W9
namespace W9
namespace K08
open PySem PySem.Spec PyProof.Rows L2
local macro_rules | `(tactic| walk_at "lt") => `(tactic| first | assumption | exact w0_lt (by assumption) _ | exact w0_lt (sealT_ok _) _ | omega | exact Ok.get (by assumption) (by assumption) | exact (by assumption : Ok _) _ (by assumption))
local macro_rules | `(tactic| walk_at "sz") => `(tactic| first | assumption | omega | decide | (simp only [List.length_append, List.length_map]; omega) | (simp only [List.length_append, List.length_take, List.length_drop, List.length_map, List.length_replicate, List.length_range, List.length_cons, List.length_nil, digs_length, tw_length, enc_length, rep_length, tailOf_length]; omega))
local macro_rules | `(tactic| walk_at "ok") => `(tactic| first | assumption | exact Ok.tk _ (by assumption) | exact Ok.dp _ (by assumption) | exact Ok.tk _ (Ok.dp _ (by assumption)) | exact digs_ok _ _ | exact cmpl_ok | exact cellsOf_ok _ | exact sealT_ok _ | exact cut_ok (by assumption) _ _ | exact rep_ok (by decide) | exact Ok.nil | exact Ok.one (w0_lt (by assumption) _) | exact Ok.one (w0_lt (sealT_ok _) _) | exact Ok.one (by decide) | exact Ok.app (Ok.one (by decide)) (Ok.one (by decide)))
local macro_rules | `(tactic| walk_at "bd") => `(tactic| first | exact bd_add | exact bd_sub | exact bd_mul (by omega) | exact bd_mul (by have := rng_of (by assumption); omega) | exact bd_mod (by omega) | exact bd_pow (by omega) | exact bd_powX (by decide +kernel) | exact bd_mod (by decide +kernel) | exact bd_mulB | exact bd_mod (by have := of_decide_eq_false (by assumption); omega) | exact bd_div (by omega) | exact bd_addC (by walk_at "sz") | exact bd_mulC (by walk_at "sz") | exact bd_mulC ⟨by decide, by decide, by assumption⟩ | exact bd_addS (by walk_at "sz") | exact bd_catL (by walk_at "sz"))
local macro_rules | `(tactic| walk_at "cd") => `(tactic| first | exact cd_lt | exact cd_ltC (by walk_at "lt") (by walk_at "lt") | exact cd_le | exact cd_gt | exact cd_ge | exact cd_eq | exact cd_ne | exact cd_eqC (by walk_at "ok") (by walk_at "ok") | exact cd_neC (by walk_at "ok") (by walk_at "ok") | exact cd_inHex (by walk_at "lt") | exact cd_inS | exact cd_isN | exact cd_notN | exact cd_eqS | exact cd_neS)
local macro_rules | `(tactic| walk_at "md") => `(tactic| first | exact md_hex (by walk_at "lt") | exact md_joinC1 (by walk_at "sz") | exact md_joinCf (f := digs 2) (k := 2) (fun _ _ => by rw [digs_length]; decide) (by walk_at "sz") | exact md_joinS (by walk_at "sz") | exact md_index (low_occ _ (by omega) (by omega) (by omega)) | exact md_index (high_occ _ (by omega) (by omega) (by omega)))
local macro_rules | `(tactic| walk_at "sd") => `(tactic| first | exact sd_hexM | exact sd_hexT (by walk_at "lt") | exact sd_C (by assumption) (by walk_at "sz") | exact sd_C (w0_get (by omega)) (by walk_at "sz") | exact sd_Ci (by have := rng_of (by assumption); omega) (w0_get (by have := rng_of (by assumption); omega)) (by walk_at "sz") | exact sd_Ci (by omega) (w0_get (by omega)) (by walk_at "sz") | exact sd_C (w0_get (Nat.lt_of_lt_of_le ((by assumption : ∀ a, a ∈ _ → a < 256) _ (by assumption)) (Nat.le_of_eq (Eq.symm (by assumption))))) (by walk_at "sz") | exact sd_hexN (by omega) (by omega) | exact sd_ints (l := [2147483647, 2147483629, 2147483587, 2147483579, 2147483563]) (by omega) (by simp only [List.length_cons, List.length_nil]; omega) | exact sd_lst rfl | exact sd_tup rfl | exact sd_low (by omega) | exact sd_high (by omega))
local macro_rules | `(tactic| walk_at "sl") => `(tactic| first | exact sl_C0n (b := 226) (by walk_at "sz") | exact sl_C0n (b := 226) (by walk_at "sz") | exact sl_Cn0 (a := 226) (by walk_at "sz") | exact sl_C (by walk_at "sz") | exact sl_L)
local macro_rules | `(tactic| walk_at "rg") => `(tactic| first | exact rg_pairs | omega)
local macro_rules | `(tactic| walk_at "ca") => `(tactic| first | exact ca_isiStr | exact ca_lenC (by walk_at "sz") | exact ca_allm rfl | exact ca_lenS (by walk_at "sz") | exact ca_lenL | exact ca_lenT | exact ca_tupL | exact ca_ord | exact ca_int | exact ca_intB | exact ca_abs | exact ca_max2 rfl | exact ca_min2 rfl | exact ca_listS rfl (by walk_at "sz"))
local macro_rules | `(tactic| walk_at "call cell_number") => `(tactic| exact .mk (by walk_at "lt"))
local macro_rules | `(tactic| walk_at "call number_in_cells") => `(tactic| exact .mk (by walk_at "ok"))
local macro_rules | `(tactic| walk_at "call cells_of_number") => `(tactic| first | exact .mk (k := 2) (by decide) | exact .mk (by walk_at "sz"))
local macro_rules | `(tactic| walk_at "call contrary") => `(tactic| exact .mk (by walk_at "ok") (by walk_at "sz"))
local macro_rules | `(tactic| walk_at "call sums_of") => `(tactic| exact .mk (by walk_at "ok") (by walk_at "sz"))
local macro_rules | `(tactic| walk_at "call sum_cells") => `(tactic| exact .mk)
local macro_rules | `(tactic| walk_at "call sign_number") => `(tactic| first | exact .mk (by assumption) | exact .mk ((by assumption : OkT _) _ (by assumption)))
local macro_rules | `(tactic| walk_at "call sign_of") => `(tactic| exact .mk (by assumption))
local macro_rules | `(tactic| walk_at "call is_page_text") => `(tactic| exact .mk (by assumption) (by assumption))
local macro_rules | `(tactic| walk_at "call text_cells") => `(tactic| exact .mk (by assumption) (by assumption))
local macro_rules | `(tactic| walk_at "fl") => `(tactic| first | rfl | exact int_ne255 | simp)
local macro_rules | `(tactic| walk_at "call signs_in") => `(tactic| exact .mk (by walk_at "ok") (by walk_at "sz") (by walk_at "sz"))
local macro_rules | `(tactic| walk_at "call sealed_page") => `(tactic| exact .mk (by assumption) (by assumption))
local macro_rules | `(tactic| walk_at "call told_sums") => `(tactic| exact .mk (by walk_at "ok") (by walk_at "sz"))
local macro_rules | `(tactic| walk_at "call fallen_in_text") => `(tactic| exact .mk (by walk_at "ok") (by walk_at "sz"))
local macro_rules | `(tactic| walk_at "call fallen_in_sums") => `(tactic| exact .mk (by walk_at "ok") (by walk_at "sz"))
local macro_rules | `(tactic| walk_at "call are_cells") => `(tactic| exact .mk (by walk_at "ok") (by walk_at "sz"))
local macro_rules | `(tactic| walk_at "call is_page") => `(tactic| exact .mk (by walk_at "ok") (by walk_at "sz"))
local macro_rules | `(tactic| walk_at "call _law_code_worth") => `(tactic| exact .mk (by walk_at "lt"))
local macro_rules | `(tactic| walk_at "call _law_code_number") => `(tactic| exact .mk (by walk_at "ok"))
local macro_rules | `(tactic| walk_at "call _law_code_figures") => `(tactic| first | exact .mk (k := 2) (by decide) | exact .mk (by walk_at "sz"))
local macro_rules | `(tactic| walk_at "call _law_code_turned") => `(tactic| exact .mk (by walk_at "ok") (by walk_at "sz"))
local macro_rules | `(tactic| walk_at "call _law_code_sums") => `(tactic| exact .mk (by walk_at "ok") (by walk_at "sz"))
local macro_rules | `(tactic| walk_at "call _law_code_tail") => `(tactic| exact .mk (by walk_at "ok") (by walk_at "sz"))
local macro_rules | `(tactic| walk_at "call _law_code_signs") => `(tactic| exact .mk)
local macro_rules | `(tactic| walk_at "call _law_code_unlike") => `(tactic| exact .mk (by walk_at "ok") (by walk_at "sz") (by walk_at "ok") (by walk_at "sz"))
local macro_rules | `(tactic| walk_at "call _law_code_fallen") => `(tactic| exact .mk (by walk_at "ok") (by walk_at "sz") (by walk_at "ok") (by walk_at "sz"))
local macro_rules | `(tactic| walk_at "call _law_code_sealed") => `(tactic| exact .mk (by assumption) (by assumption))
local macro_rules | `(tactic| walk_at "call _law_code_text") => `(tactic| exact .mk (by walk_at "ok") (by walk_at "sz"))
local macro_rules | `(tactic| walk_at "call _law_code_told") => `(tactic| exact .mk (by walk_at "ok") (by walk_at "sz"))
local macro_rules | `(tactic| walk_at "call _law_code_lifted") => `(tactic| exact .mk (by walk_at "ok") (by walk_at "sz"))
local macro_rules | `(tactic| walk_at "call _law_code_opened") => `(tactic| exact .mk (by walk_at "ok") (by walk_at "sz"))
local macro_rules | `(tactic| walk_at "rep") => `(tactic| assumption)
local macro_rules | `(tactic| walk_at "call sums") => `(tactic| exact .mk (by walk_at "ok") (by walk_at "sz"))
local macro_rules | `(tactic| walk_at "call opened") => `(tactic| exact .mk (by walk_at "ok") (by walk_at "sz"))
local macro_rules | `(tactic| walk_at "call _law_cells") => `(tactic| exact .mk)

inductive F__law_text_drawn : FT
  | mk {p : Addr} {a b c : Int} {m : MS} {P : SD → MS → Prop} (ha : 0 ≤ a) (hb : PB b) (hc : 0 ≤ c ∧ c ≤ 90000) (hpf : p ∉ ad m)
      (h : ∀ (t : List Nat) (a' c' : Int), OkT t → t.length ≤ 113 → 0 ≤ a' → (0 ≤ c' ∧ c' ≤ c + 120) → P (S t) (Pt p a' b c' :: m)) : F__law_text_drawn [.raw (.ref p)] (Pt p a b c :: m) P
inductive F__law_chip_page : FT
  | mk {p : Addr} {a b c : Int} {m : MS} {P : SD → MS → Prop} (ha : 0 ≤ a) (hb : PB b) (hc : 0 ≤ c ∧ c ≤ 90000) (hpf : p ∉ ad m)
      (h : ∀ (ws : List Nat) (a' c' : Int), Ok ws → ws.length = 256 → 0 ≤ a' → (0 ≤ c' ∧ c' ≤ c + 20) → P (C ws) (Pt p a' b c' :: m)) : F__law_chip_page [.raw (.ref p)] (Pt p a b c :: m) P
section
variable {P : Program} {w : World} {K : PySem.W.Frag} {mg : Str → Option Value} {base : Heap}

theorem text_many {d : PyData} (h : d ∈ [PyData.int 0, .int 1, .int 2, .int 7, .int 20, .int 112, .int 113]) : ∃ k : Nat, d = .int k ∧ k ≤ 113 := by
  simp only [List.mem_cons, List.not_mem_nil, or_false] at h
  rcases h with h | h | h | h | h | h | h
  · exact ⟨0, h, by decide⟩
  · exact ⟨1, h, by decide⟩
  · exact ⟨2, h, by decide⟩
  · exact ⟨7, h, by decide⟩
  · exact ⟨20, h, by decide⟩
  · exact ⟨112, h, by decide⟩
  · exact ⟨113, h, by decide⟩
abbrev punct : List Nat := [32, 33, 34, 35, 36, 38, 39, 40, 41, 42, 43, 44, 45, 46, 47, 48, 49, 50, 51, 52, 53, 54, 55, 56, 57, 58, 59, 60, 61, 62, 63, 64, 91, 92, 93, 94, 95, 96, 123, 124, 125, 126]
abbrev letters : List Nat := [65, 66, 67, 68, 69, 70, 71, 72, 73, 74, 75, 76, 77, 78, 79, 80, 81, 82, 83, 84, 85, 86, 87, 88, 89, 90, 97, 98, 99, 100, 101, 102, 103, 104, 105, 106, 107, 108, 109, 110, 111, 112, 113, 114, 115, 116, 117, 118, 119, 120, 121, 122]
theorem text_signs {d : PyData} (h : d ∈ [PyData.list ([32, 33, 97, 98, 122, 126, 10].map sgn), .list [sgn 126], .list [sgn 10], .list [sgn 32], .list ([48, 49, 50, 51, 52, 53, 54, 55, 56, 57, 10].map sgn), .list ((punct ++ letters).map sgn ++ [sgn 10]), .list ((punct ++ letters).map sgn)]) : ∃ l : List Nat, OkT l ∧ 0 < l.length ∧ l.length ≤ 200 ∧ d = .list (l.map sgn) := by
  simp only [List.mem_cons, List.not_mem_nil, or_false] at h
  rcases h with h | h | h | h | h | h | h
  · exact ⟨_, by unfold OkT; decide, by decide, by decide, h⟩
  · exact ⟨[126], by unfold OkT; decide, by decide, by decide, h⟩
  · exact ⟨[10], by unfold OkT; decide, by decide, by decide, h⟩
  · exact ⟨[32], by unfold OkT; decide, by decide, by decide, h⟩
  · exact ⟨_, by unfold OkT; decide, by decide, by decide, h⟩
  · exact ⟨punct ++ letters ++ [10], by unfold OkT; decide, by decide, by decide, by rw [h, List.map_append]; rfl⟩
  · exact ⟨_, by unfold OkT; decide, by decide, by decide, h⟩
theorem ok__law_text_drawn (T : Tx K mg) : FnG P w K mg base CX0 3 T.a__law_text_drawn T.d__law_text_drawn ["pot"] (SpD K F__law_text_drawn) := by
  refine fnD_ok T.F__law_text_drawn sc__law_text_drawn (fun xs m Pp h => by cases h; rfl) (fun cdv A outer s H E rm xs m Pp hF => ?_)
  cases hF with | @mk p a b c m Pp ha hb hc hpf h =>
  refine wss_cons (ws_par (i := 1) (j := 2) sc__law_text_drawn.nd (wa_cons (wg_call (ok__law_of T) (rm.mono (by decide)) T.m__law_of T.F__law_of.kp T.b__law_of (EA.to (ea_cons (ee_var (i := 0) rfl) (ea_cons (ee_lst (eap_cons ee_int (eap_cons ee_int (eap_cons ee_int (eap_cons ee_int (eap_cons ee_int (eap_cons ee_int (eap_cons ee_int eap_nil)))))))) ea_nil)) ⟨[], _, rfl, .mk ha hb ⟨hc.1, by omega⟩ (by decide) hpf fun d a1 c1 h1 h2 h3 => wa_cons (EE.to (ee_callTy (ea_cons (ee_strS (l := [32, 33, 34, 35, 36, 38, 39, 40, 41, 42, 43, 44, 45, 46, 47, 48, 49, 50, 51, 52, 53, 54, 55, 56, 57, 58, 59, 60, 61, 62, 63, 64, 91, 92, 93, 94, 95, 96, 123, 124, 125, 126])) ea_nil) (fun m => by walk_at "ca") T.m_list bo_list) (wa_nil ⟨_, _, rfl, ?_⟩))⟩))))
  obtain ⟨k, rfl, hk⟩ := text_many h1
  refine wss_cons (ws_setE (i := 2) sc__law_text_drawn.nd (EE.is (ee_bin (ee_var (i := 2) rfl) (ee_callTy (ea_cons (ee_strS (l := [65, 66, 67, 68, 69, 70, 71, 72, 73, 74, 75, 76, 77, 78, 79, 80, 81, 82, 83, 84, 85, 86, 87, 88, 89, 90, 97, 98, 99, 100, 101, 102, 103, 104, 105, 106, 107, 108, 109, 110, 111, 112, 113, 114, 115, 116, 117, 118, 119, 120, 121, 122])) ea_nil) (fun m => by walk_at "ca") T.m_list bo_list) (by walk_at "bd")) (show _ = Ls ((punct ++ letters).map sgn) by rw [List.map_append])) ?_)
  refine wss_cons (ws_set (i := 3) sc__law_text_drawn.nd (wg_call (ok__law_of T) (rm.mono (by decide)) T.m__law_of T.F__law_of.kp T.b__law_of (EA.to (ea_cons (ee_var (i := 0) rfl) (ea_cons (ee_lst (eap_cons (ee_callTy (ea_cons (ee_strS (l := [32, 33, 97, 98, 122, 126, 10])) ea_nil) (fun m => by walk_at "ca") T.m_list bo_list) (eap_cons (ee_lst (eap_cons (ee_strS (l := [126])) eap_nil)) (eap_cons (ee_lst (eap_cons (ee_strS (l := [10])) eap_nil)) (eap_cons (ee_lst (eap_cons (ee_strS (l := [32])) eap_nil)) (eap_cons (ee_callTy (ea_cons (ee_strS (l := [48, 49, 50, 51, 52, 53, 54, 55, 56, 57, 10])) ea_nil) (fun m => by walk_at "ca") T.m_list bo_list) (eap_cons (ee_bin (ee_var (i := 2) rfl) (ee_lst (eap_cons (ee_strS (l := [10])) eap_nil)) (by walk_at "bd")) (eap_cons (ee_var (i := 2) rfl) eap_nil)))))))) ea_nil)) ⟨[], _, rfl, .mk h2 hb ⟨h3.1, by omega⟩ (by decide) hpf fun d a2 c2 h4 h5 h6 => ?_⟩)))
  obtain ⟨l, hl1, hl2, hl3, rfl⟩ := text_signs h4
  refine wss_one (ws_ret (we_meth PySem.F.plainAttrs_str PySem.F.slot_str_join PySem.F.type_str_join (EE.is (ee_strS (l := [])) (show S [] = C [] from rfl)) (fun m => ty_str) (wa_cons
    (we_lcI (fun i acc m' => ∃ (t : List Nat) (a' c' : Int), OkT t ∧ t.length = i ∧ acc = t.map sgn ∧ 0 ≤ a' ∧ (0 ≤ c' ∧ c' ≤ c2 + i) ∧ m' = Pt p a' b c' :: m) [("lap", 4)] rfl sc__law_text_drawn.nd
      (EI.to (ei_range1 (ee_var (i := 1) rfl) (by walk_at "rg") T.m_range) ⟨by rw [List.length_map, List.length_range]; omega, ⟨[], a2, c2, (fun _ z => nomatch z), rfl, rfl, h5, ⟨h6.1, by omega⟩, rfl⟩, ?_, ?_⟩)
      (fun _ _ _ _ _ _ _ _ _ p => wg_name p sc__law_text_drawn.nd) (blkOk_by (by rfl))))))
  · rintro i y acc m' hy hi ⟨t, a3, c3, ht, hlen, rfl, ha3, hc3, rfl⟩ s H Ce cl fp
    have hlt := get_lt hy
    rw [List.length_map, List.length_range] at hlt
    refine (wg_call (ok__law_of T) (rm.mono (by decide)) T.m__law_of T.F__law_of.kp T.b__law_of (EA.to (ea_cons (ee_var (i := 0) rfl) (ea_cons (ee_var (i := 3) rfl) ea_nil)) ⟨[], _, rfl, .mk ha3 hb ⟨hc3.1, by omega⟩ ⟨by rw [List.length_map]; omega, by rw [List.length_map]; omega⟩ hpf fun d a4 c4 h7 h8 h9 => ?_⟩))
    obtain ⟨x, hx, rfl⟩ := List.mem_map.mp h7
    exact ⟨_, rfl, t ++ [x], a4, c4, ht.snoc (hl1 x hx), by rw [List.length_append, hlen]; rfl, by rw [List.map_append]; rfl, h8, ⟨h9.1, by omega⟩, rfl⟩
  · rintro acc m' hi ⟨t, a3, c3, ht, hlen, rfl, ha3, hc3, rfl⟩
    rw [List.length_map, List.length_range] at hlen hc3
    exact wa_nil ⟨_, md_joinS (by omega), h t a3 c3 ht (by omega) ha3 ⟨hc3.1, by omega⟩⟩
end
end K08
end W9
namespace W9
namespace K08
open PySem PySem.Spec PyProof.Rows L2
local macro_rules | `(tactic| walk_at "lt") => `(tactic| first | assumption | exact w0_lt (by assumption) _ | exact w0_lt (sealT_ok _) _ | omega | exact Ok.get (by assumption) (by assumption) | exact (by assumption : Ok _) _ (by assumption))
local macro_rules | `(tactic| walk_at "sz") => `(tactic| first | assumption | omega | decide | (simp only [List.length_append, List.length_map]; omega) | (simp only [List.length_append, List.length_take, List.length_drop, List.length_map, List.length_replicate, List.length_range, List.length_cons, List.length_nil, digs_length, tw_length, enc_length, rep_length, tailOf_length]; omega))
local macro_rules | `(tactic| walk_at "ok") => `(tactic| first | assumption | exact Ok.tk _ (by assumption) | exact Ok.dp _ (by assumption) | exact Ok.tk _ (Ok.dp _ (by assumption)) | exact digs_ok _ _ | exact cmpl_ok | exact cellsOf_ok _ | exact sealT_ok _ | exact cut_ok (by assumption) _ _ | exact rep_ok (by decide) | exact Ok.nil | exact Ok.one (w0_lt (by assumption) _) | exact Ok.one (w0_lt (sealT_ok _) _) | exact Ok.one (by decide) | exact Ok.app (Ok.one (by decide)) (Ok.one (by decide)))
local macro_rules | `(tactic| walk_at "bd") => `(tactic| first | exact bd_add | exact bd_sub | exact bd_mul (by omega) | exact bd_mul (by have := rng_of (by assumption); omega) | exact bd_mod (by omega) | exact bd_pow (by omega) | exact bd_powX (by decide +kernel) | exact bd_mod (by decide +kernel) | exact bd_mulB | exact bd_mod (by have := of_decide_eq_false (by assumption); omega) | exact bd_div (by omega) | exact bd_addC (by walk_at "sz") | exact bd_mulC (by walk_at "sz") | exact bd_mulC ⟨by decide, by decide, by assumption⟩ | exact bd_addS (by walk_at "sz") | exact bd_catL (by walk_at "sz"))
local macro_rules | `(tactic| walk_at "cd") => `(tactic| first | exact cd_lt | exact cd_ltC (by walk_at "lt") (by walk_at "lt") | exact cd_le | exact cd_gt | exact cd_ge | exact cd_eq | exact cd_ne | exact cd_eqC (by walk_at "ok") (by walk_at "ok") | exact cd_neC (by walk_at "ok") (by walk_at "ok") | exact cd_inHex (by walk_at "lt") | exact cd_inS | exact cd_isN | exact cd_notN | exact cd_eqS | exact cd_neS)
local macro_rules | `(tactic| walk_at "md") => `(tactic| first | exact md_joinCl (by walk_at "sz") | exact md_hex (by walk_at "lt") | exact md_joinC1 (by walk_at "sz") | exact md_joinCf (f := digs 2) (k := 2) (fun _ _ => by rw [digs_length]; decide) (by walk_at "sz") | exact md_joinS (by walk_at "sz") | exact md_index (low_occ _ (by omega) (by omega) (by omega)) | exact md_index (high_occ _ (by omega) (by omega) (by omega)))
local macro_rules | `(tactic| walk_at "sd") => `(tactic| first | exact sd_hexM | exact sd_hexT (by walk_at "lt") | exact sd_C (by assumption) (by walk_at "sz") | exact sd_C (w0_get (by omega)) (by walk_at "sz") | exact sd_Ci (by have := rng_of (by assumption); omega) (w0_get (by have := rng_of (by assumption); omega)) (by walk_at "sz") | exact sd_Ci (by omega) (w0_get (by omega)) (by walk_at "sz") | exact sd_C (w0_get (Nat.lt_of_lt_of_le ((by assumption : ∀ a, a ∈ _ → a < 256) _ (by assumption)) (Nat.le_of_eq (Eq.symm (by assumption))))) (by walk_at "sz") | exact sd_hexN (by omega) (by omega) | exact sd_ints (l := [2147483647, 2147483629, 2147483587, 2147483579, 2147483563]) (by omega) (by simp only [List.length_cons, List.length_nil]; omega) | exact sd_cl (by omega) (by omega) | exact sd_lst rfl | exact sd_tup rfl | exact sd_low (by omega) | exact sd_high (by omega))
local macro_rules | `(tactic| walk_at "sl") => `(tactic| first | exact sl_C0n (b := 226) (by walk_at "sz") | exact sl_C0n (b := 226) (by walk_at "sz") | exact sl_Cn0 (a := 226) (by walk_at "sz") | exact sl_C (by walk_at "sz") | exact sl_L | exact sl_S (by walk_at "sz"))
local macro_rules | `(tactic| walk_at "rg") => `(tactic| first | exact rg_pairs | omega)
local macro_rules | `(tactic| walk_at "ca") => `(tactic| first | exact ca_isiStr | exact ca_lenC (by walk_at "sz") | exact ca_allm rfl | exact ca_lenS (by walk_at "sz") | exact ca_lenL | exact ca_lenT | exact ca_tupL | exact ca_ord | exact ca_int | exact ca_intB | exact ca_abs | exact ca_max2 rfl | exact ca_min2 rfl | exact ca_listS rfl (by walk_at "sz"))
local macro_rules | `(tactic| walk_at "call cell_number") => `(tactic| exact .mk (by walk_at "lt"))
local macro_rules | `(tactic| walk_at "call number_in_cells") => `(tactic| exact .mk (by walk_at "ok"))
local macro_rules | `(tactic| walk_at "call cells_of_number") => `(tactic| first | exact .mk (k := 2) (by decide) | exact .mk (by walk_at "sz"))
local macro_rules | `(tactic| walk_at "call contrary") => `(tactic| exact .mk (by walk_at "ok") (by walk_at "sz"))
local macro_rules | `(tactic| walk_at "call sums_of") => `(tactic| exact .mk (by walk_at "ok") (by walk_at "sz"))
local macro_rules | `(tactic| walk_at "call sum_cells") => `(tactic| exact .mk)
local macro_rules | `(tactic| walk_at "call sign_number") => `(tactic| first | exact .mk (by assumption) | exact .mk ((by assumption : OkT _) _ (by assumption)))
local macro_rules | `(tactic| walk_at "call sign_of") => `(tactic| exact .mk (by assumption))
local macro_rules | `(tactic| walk_at "call is_page_text") => `(tactic| exact .mk (by assumption) (by assumption))
local macro_rules | `(tactic| walk_at "call text_cells") => `(tactic| exact .mk (by assumption) (by assumption))
local macro_rules | `(tactic| walk_at "fl") => `(tactic| first | rfl | exact int_ne255 | simp)
local macro_rules | `(tactic| walk_at "call signs_in") => `(tactic| exact .mk (by walk_at "ok") (by walk_at "sz") (by walk_at "sz"))
local macro_rules | `(tactic| walk_at "call sealed_page") => `(tactic| exact .mk (by assumption) (by assumption))
local macro_rules | `(tactic| walk_at "call told_sums") => `(tactic| exact .mk (by walk_at "ok") (by walk_at "sz"))
local macro_rules | `(tactic| walk_at "call fallen_in_text") => `(tactic| exact .mk (by walk_at "ok") (by walk_at "sz"))
local macro_rules | `(tactic| walk_at "call fallen_in_sums") => `(tactic| exact .mk (by walk_at "ok") (by walk_at "sz"))
local macro_rules | `(tactic| walk_at "call are_cells") => `(tactic| exact .mk (by walk_at "ok") (by walk_at "sz"))
local macro_rules | `(tactic| walk_at "call is_page") => `(tactic| exact .mk (by walk_at "ok") (by walk_at "sz"))
local macro_rules | `(tactic| walk_at "call _law_code_worth") => `(tactic| exact .mk (by walk_at "lt"))
local macro_rules | `(tactic| walk_at "call _law_code_number") => `(tactic| exact .mk (by walk_at "ok"))
local macro_rules | `(tactic| walk_at "call _law_code_figures") => `(tactic| first | exact .mk (k := 2) (by decide) | exact .mk (by walk_at "sz"))
local macro_rules | `(tactic| walk_at "call _law_code_turned") => `(tactic| exact .mk (by walk_at "ok") (by walk_at "sz"))
local macro_rules | `(tactic| walk_at "call _law_code_sums") => `(tactic| exact .mk (by walk_at "ok") (by walk_at "sz"))
local macro_rules | `(tactic| walk_at "call _law_code_tail") => `(tactic| exact .mk (by walk_at "ok") (by walk_at "sz"))
local macro_rules | `(tactic| walk_at "call _law_code_signs") => `(tactic| exact .mk)
local macro_rules | `(tactic| walk_at "call _law_code_unlike") => `(tactic| exact .mk (by walk_at "ok") (by walk_at "sz") (by walk_at "ok") (by walk_at "sz"))
local macro_rules | `(tactic| walk_at "call _law_code_fallen") => `(tactic| exact .mk (by walk_at "ok") (by walk_at "sz") (by walk_at "ok") (by walk_at "sz"))
local macro_rules | `(tactic| walk_at "call _law_code_sealed") => `(tactic| exact .mk (by assumption) (by assumption))
local macro_rules | `(tactic| walk_at "call _law_code_text") => `(tactic| exact .mk (by walk_at "ok") (by walk_at "sz"))
local macro_rules | `(tactic| walk_at "call _law_code_told") => `(tactic| exact .mk (by walk_at "ok") (by walk_at "sz"))
local macro_rules | `(tactic| walk_at "call _law_code_lifted") => `(tactic| exact .mk (by walk_at "ok") (by walk_at "sz"))
local macro_rules | `(tactic| walk_at "call _law_code_opened") => `(tactic| exact .mk (by walk_at "ok") (by walk_at "sz"))
local macro_rules | `(tactic| walk_at "rep") => `(tactic| assumption)
local macro_rules | `(tactic| walk_at "call sums") => `(tactic| exact .mk (by walk_at "ok") (by walk_at "sz"))
local macro_rules | `(tactic| walk_at "call opened") => `(tactic| exact .mk (by walk_at "ok") (by walk_at "sz"))
local macro_rules | `(tactic| walk_at "call _law_cells") => `(tactic| exact .mk)
local macro_rules | `(tactic| walk_at "call is_page_text") => `(tactic| exact .mk (by assumption) (by assumption))
local macro_rules | `(tactic| walk_at "call sealed") => `(tactic| exact .mk (by assumption) (by assumption))
local macro_rules | `(tactic| walk_at "asc") => `(tactic| exact asc_C (by walk_at "ok"))
local macro_rules | `(tactic| walk_at "zl") => `(tactic| (rw [List.length_map, List.length_map]; omega))
local macro_rules | `(tactic| walk_at "call _law_many_greater") => `(tactic| exact .mk (by walk_at "ok") (by walk_at "sz") (by walk_at "ok") (by walk_at "sz"))
local macro_rules | `(tactic| walk_at "call _law_is_told") => `(tactic| exact .mk (by assumption) (by assumption) (by assumption) (by assumption) (by assumption))

inductive R_sealed : List SD → SD → Prop
  | mk {t : List Nat} (h : OkT t) (hl : t.length ≤ 113) : R_sealed [S t] (C (sealT t))
inductive R__law_chip_torn : List SD → SD → Prop
  | mk {ws us : List Nat} (h : Ok ws) (hl : ws.length ≤ 1000) (h2 : Ok us) (hu : 0 < us.length ∧ us.length ≤ 1000) : R__law_chip_torn [C ws, C us] (C (torn ws us))
inductive F__law_chip_pattern : FT
  | mk {p : Addr} {a b c : Int} {m : MS} {P : SD → MS → Prop} (ha : 0 ≤ a) (hb : PB b) (hc : 0 ≤ c ∧ c ≤ 90000) (hpf : p ∉ ad m)
      (h : ∀ (us : List Nat) (a' c' : Int), Ok us → 0 < us.length ∧ us.length ≤ 20 → 0 ≤ a' → (0 ≤ c' ∧ c' ≤ c + 30) → P (C us) (Pt p a' b c' :: m)) : F__law_chip_pattern [.raw (.ref p)] (Pt p a b c :: m) P
inductive F__law_raised : FT
  | mk {p : Addr} {a b c : Int} {ws : List Nat} {m : MS} {P : SD → MS → Prop} (ha : 0 ≤ a) (hb : PB b) (hc : 0 ≤ c ∧ c ≤ 80000) (hpf : p ∉ ad m) (ho : Ok ws) (hl : ws.length = 256)
      (h : ∀ (us : List Nat) (a' c' : Int), Ok us → us.length = 256 → Up ws us → 0 ≤ a' → (0 ≤ c' ∧ c' ≤ c + 60) → P (C us) (Pt p a' b c' :: m)) : F__law_raised [.raw (.ref p), C ws] (Pt p a b c :: m) P
inductive F__law_fallen : FT
  | mk {p : Addr} {a b c : Int} {ws : List Nat} {m : MS} {P : SD → MS → Prop} (ha : 0 ≤ a) (hb : PB b) (hc : 0 ≤ c ∧ c ≤ 80000) (hpf : p ∉ ad m) (ho : Ok ws) (hl : ws.length = 256)
      (h : ∀ (us : List Nat) (d : PyData) (a' c' : Int), Ok us → us.length = 256 → (us = ws ∧ d = .none) ∨ (∃ at_ v : Nat, at_ < 256 ∧ us = ws.set at_ v ∧ d = .int at_) → 0 ≤ a' → (0 ≤ c' ∧ c' ≤ c + 10) → P (Tp [.str ⟨(us.map dig).toArray⟩, d]) (Pt p a' b c' :: m)) : F__law_fallen [.raw (.ref p), C ws] (Pt p a b c :: m) P
section
variable {P : Program} {w : World} {K : PySem.W.Frag} {mg : Str → Option Value} {base : Heap}
theorem ok_sealed (T : Tx K mg) : FnG P w K mg base CX0 5 T.a_sealed T.d_sealed ["text"] (SpD K (pureF R_sealed)) := by
  refine fnD_ok T.F_sealed sc_sealed (fun xs m Pp ⟨d, h, _⟩ => by cases h; rfl) (fun cdv A outer s H E rm xs m Pp ⟨d, hR, hp⟩ => ?_)
  cases hR with | @mk t ht hl =>
  refine wss_cons (ws_ife (et_not (et_val (eg_call (ok_is_page_text T) (rm.mono (by decide)) T.m_is_page_text T.F_is_page_text.kp T.b_is_page_text (ea_cons (ee_var (i := 0) rfl) ea_nil) (by walk_at "call is_page_text")))) (fun h => by cases h) fun _ => wss_nil ?_)
  exact wss_one (ws_retE (eg_call (ok_sealed_page T) (rm.mono (by decide)) T.m_sealed_page T.F_sealed_page.kp T.b_sealed_page (ea_cons (ee_var (i := 0) rfl) ea_nil) (by walk_at "call sealed_page")) hp)
theorem ok__law_chip_torn (T : Tx K mg) : FnG P w K mg base CX0 1 T.a__law_chip_torn T.d__law_chip_torn ["cells", "pattern"] (SpD K (pureF R__law_chip_torn)) := by
  refine fnD_ok T.F__law_chip_torn sc__law_chip_torn (fun xs m Pp ⟨d, h, _⟩ => by cases h; rfl) (fun cdv A outer s H E rm xs m Pp ⟨d, hR, hp⟩ => ?_)
  cases hR with | @mk ws us ho hl ho2 hu =>
  have htl := torn_len ws us
  refine wss_cons (ws_new (i := 2) sc__law_chip_torn.nd fun p hpf => ?_)
  refine wss_cons (ws_for (js := [3, 4]) (((ei_enumC (ee_var (i := 0) rfl) (by walk_at "ok") T.m_enumerate)).to ⟨fun i ds' m' => ∃ y z u, ds' = [some (C ws), some (C us), some (.raw (.ref p)), y, z, u] ∧ m' = (p, .dl (cl ((torn ws us).take i))) :: m, ⟨none, none, none, rfl, by rw [List.take_zero]; rfl⟩, ?_, ?_⟩))
  · rintro i x ds' m' hx ⟨y, z, u, rfl, rfl⟩
    obtain ⟨w, hw, rfl⟩ := map_zip_get hx
    have hi := get_lt hw
    have hw16 : w < 16 := ho.get hw
    have hm : i % us.length < us.length := Nat.mod_lt _ hu.1
    have hr16 := w0_lt ho2 (i % us.length)
    refine wg_tup (wgs_cons (wg_name (wgs_cons (wg_name (wgs_nil ?_) sc__law_chip_torn.nd)) sc__law_chip_torn.nd))
    refine wss_cons (ws_setE (i := 5) sc__law_chip_torn.nd (d := C [w0 us (i % us.length)]) (ee_sub (ee_var (i := 1) rfl) (EE.is (ee_bin (ee_var (i := 3) rfl) (ee_callB (ea_cons (ee_var (i := 1) rfl) ea_nil) (fun m => by walk_at "ca") T.m_len bo_len) (by walk_at "bd")) (I_eq (b := ((i % us.length : Nat) : Int)) (by rw [Int.natCast_emod]))) (fun m => sd_C (w0_get hm) (by omega))) ?_)
    refine wss_one (ws_appH (d := .str ⟨([if w0 us (i % us.length) ≤ w then w else w0 us (i % us.length)].map dig).toArray⟩) hpf (ee_var (i := 2) rfl) (ee_if (et_cmp (ee_meth PySem.F.plainAttrs_str PySem.F.slot_str_index PySem.F.type_str_index (ee_strS (l := [48, 49, 50, 51, 52, 53, 54, 55, 56, 57, 97, 98, 99, 100, 101, 102])) (ea_cons (ee_var (i := 4) rfl) ea_nil) (fun m => by walk_at "md")) (ee_meth PySem.F.plainAttrs_str PySem.F.slot_str_index PySem.F.type_str_index (ee_strS (l := [48, 49, 50, 51, 52, 53, 54, 55, 56, 57, 97, 98, 99, 100, 101, 102])) (ea_cons (ee_var (i := 5) rfl) ea_nil) (fun m => by walk_at "md")) (by walk_at "cd")) (fun h => ?_) (fun h => ?_)) (by rw [cl_len, List.length_take]; omega) ⟨_, _, _, rfl, ?_⟩)
    · have h := of_decide_eq_true h
      refine EE.is (ee_var (i := 4) rfl) ?_
      rw [if_pos (by omega)]
    · have h := of_decide_eq_false h
      refine EE.is (ee_var (i := 5) rfl) ?_
      rw [if_neg (by omega)]
    · rw [List.take_add_one, torn_get hw]
      show _ = (p, OV.dl (List.map sgn ((List.take i (torn ws us) ++ [_]).map dig))) :: m
      rw [List.map_append, List.map_append]
      rfl
  · rintro ds' m' ⟨y, z, u, rfl, rfl⟩
    rw [List.length_map, List.length_zipIdx, List.take_of_length_le (by omega)]
    refine wss_seal (i := 2) rfl (wss_one (ws_retE (ee_meth PySem.F.plainAttrs_str PySem.F.slot_str_join PySem.F.type_str_join (EE.is (ee_strS (l := [])) (show S [] = C [] from rfl)) (ea_cons (ee_var (i := 2) rfl) ea_nil) (fun m => by walk_at "md")) hp))
theorem pat_sign {d : PyData} (h : d ∈ [48, 48, 48, 102, 102, 102, 51, 55, 98, 100].map sgn) : ∃ w, w < 16 ∧ d = .str ⟨([w].map dig).toArray⟩ := by
  refine hex_sgn ?_
  obtain ⟨x, hx, rfl⟩ := List.mem_map.mp h
  refine List.mem_map_of_mem ?_
  have : ∀ x ∈ [48, 48, 48, 102, 102, 102, 51, 55, 98, 100], x ∈ hexS := by decide
  exact this x hx
theorem ok__law_chip_pattern (T : Tx K mg) : FnG P w K mg base CX0 3 T.a__law_chip_pattern T.d__law_chip_pattern ["pot"] (SpD K F__law_chip_pattern) := by
  refine fnD_ok T.F__law_chip_pattern sc__law_chip_pattern (fun xs m Pp h => by cases h; rfl) (fun cdv A outer s H E rm xs m Pp hF => ?_)
  cases hF with | @mk p a b c m Pp ha hb hc hpf h =>
  refine wss_cons (ws_set (i := 1) sc__law_chip_pattern.nd (wg_call (ok__law_take T) (rm.mono (by decide)) T.m__law_take T.F__law_take.kp T.b__law_take (EA.to (ea_cons (ee_var (i := 0) rfl) (ea_cons ee_int ea_nil)) ⟨[], _, rfl, .mk ha hb ⟨hc.1, by omega⟩ (by decide) hpf fun way a1 c1 h1 h2 h3 => ?_⟩)))
  refine wss_cons (ws_ife (et_cmp (ee_var (i := 1) rfl) ee_int (by walk_at "cd")) (fun hw => ?_) fun hw => wss_nil ?_)
  · have hw := of_decide_eq_true hw
    have e : way = 0 ∨ way = 1 := by omega
    rcases e with rfl | rfl
    · exact wss_one (ws_retE (d := C [15]) (ee_sub (ee_lst (eap_cons (EE.is (ee_strS (l := [102])) (show S [102] = C [15] from rfl)) (eap_cons (EE.is (ee_strS (l := [48])) (show S [48] = C [0] from rfl)) eap_nil))) (ee_var (i := 1) rfl) (fun m => by walk_at "sd")) (h [15] a1 c1 (Ok.one (by decide)) (by decide) h2 ⟨h3.1, by omega⟩))
    · exact wss_one (ws_retE (d := C [0]) (ee_sub (ee_lst (eap_cons (EE.is (ee_strS (l := [102])) (show S [102] = C [15] from rfl)) (eap_cons (EE.is (ee_strS (l := [48])) (show S [48] = C [0] from rfl)) eap_nil))) (ee_var (i := 1) rfl) (fun m => by walk_at "sd")) (h [0] a1 c1 (Ok.one (by decide)) (by decide) h2 ⟨h3.1, by omega⟩))
  · have hw := of_decide_eq_false hw
    have hn : 0 < [0, 0, 7, 19].getD way.toNat (0 : Int) ∧ [0, 0, 7, 19].getD way.toNat (0 : Int) ≤ 19 := by
      have e : way = 2 ∨ way = 3 := by omega
      rcases e with rfl | rfl <;> decide
    refine wss_one (ws_ret (we_meth PySem.F.plainAttrs_str PySem.F.slot_str_join PySem.F.type_str_join (EE.is (ee_strS (l := [])) (show S [] = C [] from rfl)) (fun m => ty_str) (wa_cons
      (we_lcI (fun i acc m' => ∃ (us : List Nat) (a' c' : Int), Ok us ∧ us.length = i ∧ acc = cl us ∧ 0 ≤ a' ∧ (0 ≤ c' ∧ c' ≤ c + 2 + i) ∧ m' = Pt p a' b c' :: m) [("lap", 2)] rfl sc__law_chip_pattern.nd
        (wi_range1 (we_bin (EE.to ee_int (wg_call (ok__law_take T) (rm.mono (by decide)) T.m__law_take T.F__law_take.kp T.b__law_take (EA.to (ea_cons (ee_var (i := 0) rfl) (ea_cons (ee_sub (ee_lst (eap_cons ee_int (eap_cons ee_int (eap_cons ee_int (eap_cons ee_int eap_nil))))) (ee_var (i := 1) rfl) (fun m => sd_ints (l := [0, 0, 7, 19]) (by omega) (by simp only [List.length_cons, List.length_nil]; omega))) ea_nil)) ⟨[], _, rfl, .mk h2 hb ⟨h3.1, by omega⟩ ⟨hn.1, by omega⟩ hpf fun d a2 c2 h4 h5 h6 => ⟨_, bd_add, _, rfl, by omega, by rw [List.length_map, List.length_range]; omega, ⟨[], a2, c2, Ok.nil, rfl, rfl, h5, ⟨h6.1, by omega⟩, rfl⟩, ?_, ?_⟩⟩)))) T.m_range)
        (fun _ _ _ _ _ _ _ _ _ p => wg_name p sc__law_chip_pattern.nd) (blkOk_by (by rfl))))))
    · rintro i y acc m' hy hi ⟨us, a3, c3, ho, hl, rfl, ha3, hc3, rfl⟩ s H Ce cl_ fp
      have hlt := get_lt hy
      rw [List.length_map, List.length_range] at hlt
      refine (wg_call (ok__law_of T) (rm.mono (by decide)) T.m__law_of T.F__law_of.kp T.b__law_of (EA.to (ea_cons (ee_var (i := 0) rfl) (ea_cons (ee_callTy (ea_cons (ee_strS (l := [48, 48, 48, 102, 102, 102, 51, 55, 98, 100])) ea_nil) (fun m => by walk_at "ca") T.m_list bo_list) ea_nil)) ⟨[], _, rfl, .mk ha3 hb ⟨hc3.1, by omega⟩ (by decide) hpf fun d a4 c4 h7 h8 h9 => ?_⟩))
      obtain ⟨x, hx, rfl⟩ := pat_sign h7
      exact ⟨_, rfl, us ++ [x], a4, c4, ho.app (Ok.one hx), by rw [List.length_append, hl]; rfl, by unfold cl; rw [List.map_append, List.map_append]; rfl, h8, ⟨h9.1, by omega⟩, rfl⟩
    · rintro acc m' hi ⟨us, a3, c3, ho, hl, rfl, ha3, hc3, rfl⟩
      rw [List.length_map, List.length_range] at hl hc3
      exact wa_nil ⟨_, md_joinCl (by omega), h us a3 c3 ho (by omega) ha3 ⟨hc3.1, by omega⟩⟩
end
end K08
end W9
namespace W9
namespace K08
open PySem PySem.Spec PyProof.Rows L2
local macro_rules | `(tactic| walk_at "lt") => `(tactic| first | assumption | exact w0_lt (by assumption) _ | exact w0_lt (sealT_ok _) _ | omega | exact Ok.get (by assumption) (by assumption) | exact (by assumption : Ok _) _ (by assumption))
local macro_rules | `(tactic| walk_at "sz") => `(tactic| first | assumption | omega | decide | (simp only [List.length_append, List.length_map]; omega) | (simp only [List.length_append, List.length_take, List.length_drop, List.length_map, List.length_replicate, List.length_range, List.length_cons, List.length_nil, digs_length, tw_length, enc_length, rep_length, tailOf_length]; omega))
local macro_rules | `(tactic| walk_at "ok") => `(tactic| first | assumption | exact Ok.tk _ (by assumption) | exact Ok.dp _ (by assumption) | exact Ok.tk _ (Ok.dp _ (by assumption)) | exact digs_ok _ _ | exact cmpl_ok | exact cellsOf_ok _ | exact sealT_ok _ | exact cut_ok (by assumption) _ _ | exact rep_ok (by decide) | exact Ok.nil | exact Ok.one (w0_lt (by assumption) _) | exact Ok.one (w0_lt (sealT_ok _) _) | exact Ok.one (by decide) | exact Ok.app (Ok.one (by decide)) (Ok.one (by decide)))
local macro_rules | `(tactic| walk_at "bd") => `(tactic| first | exact bd_add | exact bd_sub | exact bd_mul (by omega) | exact bd_mul (by have := rng_of (by assumption); omega) | exact bd_mod (by omega) | exact bd_pow (by omega) | exact bd_powX (by decide +kernel) | exact bd_mod (by decide +kernel) | exact bd_mulB | exact bd_mod (by have := of_decide_eq_false (by assumption); omega) | exact bd_div (by omega) | exact bd_addC (by walk_at "sz") | exact bd_mulC (by walk_at "sz") | exact bd_mulC ⟨by decide, by decide, by assumption⟩ | exact bd_addS (by walk_at "sz") | exact bd_catL (by walk_at "sz"))
local macro_rules | `(tactic| walk_at "cd") => `(tactic| first | exact cd_lt | exact cd_ltC (by walk_at "lt") (by walk_at "lt") | exact cd_le | exact cd_gt | exact cd_ge | exact cd_eq | exact cd_ne | exact cd_eqC (by walk_at "ok") (by walk_at "ok") | exact cd_neC (by walk_at "ok") (by walk_at "ok") | exact cd_inHex (by walk_at "lt") | exact cd_inS | exact cd_isN | exact cd_notN | exact cd_eqS | exact cd_neS)
local macro_rules | `(tactic| walk_at "md") => `(tactic| first | exact md_joinCl (by walk_at "sz") | exact md_hex (by walk_at "lt") | exact md_joinC1 (by walk_at "sz") | exact md_joinCf (f := digs 2) (k := 2) (fun _ _ => by rw [digs_length]; decide) (by walk_at "sz") | exact md_joinS (by walk_at "sz") | exact md_index (low_occ _ (by omega) (by omega) (by omega)) | exact md_index (high_occ _ (by omega) (by omega) (by omega)))
local macro_rules | `(tactic| walk_at "sd") => `(tactic| first | exact sd_hexM | exact sd_hexT (by walk_at "lt") | exact sd_C (by assumption) (by walk_at "sz") | exact sd_C (w0_get (by omega)) (by walk_at "sz") | exact sd_Ci (by have := rng_of (by assumption); omega) (w0_get (by have := rng_of (by assumption); omega)) (by walk_at "sz") | exact sd_Ci (by omega) (w0_get (by omega)) (by walk_at "sz") | exact sd_C (w0_get (Nat.lt_of_lt_of_le ((by assumption : ∀ a, a ∈ _ → a < 256) _ (by assumption)) (Nat.le_of_eq (Eq.symm (by assumption))))) (by walk_at "sz") | exact sd_hexN (by omega) (by omega) | exact sd_ints (l := [2147483647, 2147483629, 2147483587, 2147483579, 2147483563]) (by omega) (by simp only [List.length_cons, List.length_nil]; omega) | exact sd_cl (by omega) (by omega) | exact sd_lst rfl | exact sd_tup rfl | exact sd_low (by omega) | exact sd_high (by omega))
local macro_rules | `(tactic| walk_at "sl") => `(tactic| first | exact sl_C0n (b := 226) (by walk_at "sz") | exact sl_C0n (b := 226) (by walk_at "sz") | exact sl_Cn0 (a := 226) (by walk_at "sz") | exact sl_C (by walk_at "sz") | exact sl_L | exact sl_S (by walk_at "sz"))
local macro_rules | `(tactic| walk_at "rg") => `(tactic| first | exact rg_pairs | omega)
local macro_rules | `(tactic| walk_at "ca") => `(tactic| first | exact ca_isiStr | exact ca_lenC (by walk_at "sz") | exact ca_allm rfl | exact ca_lenS (by walk_at "sz") | exact ca_lenL | exact ca_lenT | exact ca_tupL | exact ca_ord | exact ca_int | exact ca_intB | exact ca_abs | exact ca_max2 rfl | exact ca_min2 rfl | exact ca_listS rfl (by walk_at "sz"))
local macro_rules | `(tactic| walk_at "call cell_number") => `(tactic| exact .mk (by walk_at "lt"))
local macro_rules | `(tactic| walk_at "call number_in_cells") => `(tactic| exact .mk (by walk_at "ok"))
local macro_rules | `(tactic| walk_at "call cells_of_number") => `(tactic| first | exact .mk (k := 2) (by decide) | exact .mk (by walk_at "sz"))
local macro_rules | `(tactic| walk_at "call contrary") => `(tactic| exact .mk (by walk_at "ok") (by walk_at "sz"))
local macro_rules | `(tactic| walk_at "call sums_of") => `(tactic| exact .mk (by walk_at "ok") (by walk_at "sz"))
local macro_rules | `(tactic| walk_at "call sum_cells") => `(tactic| exact .mk)
local macro_rules | `(tactic| walk_at "call sign_number") => `(tactic| first | exact .mk (by assumption) | exact .mk ((by assumption : OkT _) _ (by assumption)))
local macro_rules | `(tactic| walk_at "call sign_of") => `(tactic| exact .mk (by assumption))
local macro_rules | `(tactic| walk_at "call is_page_text") => `(tactic| exact .mk (by assumption) (by assumption))
local macro_rules | `(tactic| walk_at "call text_cells") => `(tactic| exact .mk (by assumption) (by assumption))
local macro_rules | `(tactic| walk_at "fl") => `(tactic| first | rfl | exact int_ne255 | simp)
local macro_rules | `(tactic| walk_at "call signs_in") => `(tactic| exact .mk (by walk_at "ok") (by walk_at "sz") (by walk_at "sz"))
local macro_rules | `(tactic| walk_at "call sealed_page") => `(tactic| exact .mk (by assumption) (by assumption))
local macro_rules | `(tactic| walk_at "call told_sums") => `(tactic| exact .mk (by walk_at "ok") (by walk_at "sz"))
local macro_rules | `(tactic| walk_at "call fallen_in_text") => `(tactic| exact .mk (by walk_at "ok") (by walk_at "sz"))
local macro_rules | `(tactic| walk_at "call fallen_in_sums") => `(tactic| exact .mk (by walk_at "ok") (by walk_at "sz"))
local macro_rules | `(tactic| walk_at "call are_cells") => `(tactic| exact .mk (by walk_at "ok") (by walk_at "sz"))
local macro_rules | `(tactic| walk_at "call is_page") => `(tactic| exact .mk (by walk_at "ok") (by walk_at "sz"))
local macro_rules | `(tactic| walk_at "call _law_code_worth") => `(tactic| exact .mk (by walk_at "lt"))
local macro_rules | `(tactic| walk_at "call _law_code_number") => `(tactic| exact .mk (by walk_at "ok"))
local macro_rules | `(tactic| walk_at "call _law_code_figures") => `(tactic| first | exact .mk (k := 2) (by decide) | exact .mk (by walk_at "sz"))
local macro_rules | `(tactic| walk_at "call _law_code_turned") => `(tactic| exact .mk (by walk_at "ok") (by walk_at "sz"))
local macro_rules | `(tactic| walk_at "call _law_code_sums") => `(tactic| exact .mk (by walk_at "ok") (by walk_at "sz"))
local macro_rules | `(tactic| walk_at "call _law_code_tail") => `(tactic| exact .mk (by walk_at "ok") (by walk_at "sz"))
local macro_rules | `(tactic| walk_at "call _law_code_signs") => `(tactic| exact .mk)
local macro_rules | `(tactic| walk_at "call _law_code_unlike") => `(tactic| exact .mk (by walk_at "ok") (by walk_at "sz") (by walk_at "ok") (by walk_at "sz"))
local macro_rules | `(tactic| walk_at "call _law_code_fallen") => `(tactic| exact .mk (by walk_at "ok") (by walk_at "sz") (by walk_at "ok") (by walk_at "sz"))
local macro_rules | `(tactic| walk_at "call _law_code_sealed") => `(tactic| exact .mk (by assumption) (by assumption))
local macro_rules | `(tactic| walk_at "call _law_code_text") => `(tactic| exact .mk (by walk_at "ok") (by walk_at "sz"))
local macro_rules | `(tactic| walk_at "call _law_code_told") => `(tactic| exact .mk (by walk_at "ok") (by walk_at "sz"))
local macro_rules | `(tactic| walk_at "call _law_code_lifted") => `(tactic| exact .mk (by walk_at "ok") (by walk_at "sz"))
local macro_rules | `(tactic| walk_at "call _law_code_opened") => `(tactic| exact .mk (by walk_at "ok") (by walk_at "sz"))
local macro_rules | `(tactic| walk_at "rep") => `(tactic| assumption)
local macro_rules | `(tactic| walk_at "call sums") => `(tactic| exact .mk (by walk_at "ok") (by walk_at "sz"))
local macro_rules | `(tactic| walk_at "call opened") => `(tactic| exact .mk (by walk_at "ok") (by walk_at "sz"))
local macro_rules | `(tactic| walk_at "call _law_cells") => `(tactic| exact .mk)
local macro_rules | `(tactic| walk_at "call is_page_text") => `(tactic| exact .mk (by assumption) (by assumption))
local macro_rules | `(tactic| walk_at "call sealed") => `(tactic| exact .mk (by assumption) (by assumption))
local macro_rules | `(tactic| walk_at "asc") => `(tactic| exact asc_C (by walk_at "ok"))
local macro_rules | `(tactic| walk_at "zl") => `(tactic| (rw [List.length_map, List.length_map]; omega))
local macro_rules | `(tactic| walk_at "call _law_many_greater") => `(tactic| exact .mk (by walk_at "ok") (by walk_at "sz") (by walk_at "ok") (by walk_at "sz"))
local macro_rules | `(tactic| walk_at "call _law_is_told") => `(tactic| exact .mk (by assumption) (by assumption) (by assumption) (by assumption) (by assumption))

section
variable {P : Program} {w : World} {K : PySem.W.Frag} {mg : Str → Option Value} {base : Heap}
theorem lap_many {d : PyData} (h : d ∈ [PyData.int 1, .int 2, .int 3, .int 9]) : ∃ k : Int, d = .int k ∧ 0 ≤ k ∧ k ≤ 9 := by
  simp only [List.mem_cons, List.not_mem_nil, or_false] at h
  rcases h with h | h | h | h
  · exact ⟨1, h, by decide⟩
  · exact ⟨2, h, by decide⟩
  · exact ⟨3, h, by decide⟩
  · exact ⟨9, h, by decide⟩
theorem at_one {d : PyData} {d1 d2 d3 : Int} (h : d ∈ [PyData.int d1, .int d2, .int (226 + d3)]) (h1 : 0 ≤ d1 ∧ d1 < 256) (h2 : 0 ≤ d2 ∧ d2 < 12) (h3 : 0 ≤ d3 ∧ d3 < 30) : ∃ k : Int, d = .int k ∧ 0 ≤ k ∧ k < 256 := by
  simp only [List.mem_cons, List.not_mem_nil, or_false] at h
  rcases h with h | h | h
  · exact ⟨_, h, by omega⟩
  · exact ⟨_, h, by omega⟩
  · exact ⟨_, h, by omega⟩
theorem ok__law_raised (T : Tx K mg) : FnG P w K mg base CX0 4 T.a__law_raised T.d__law_raised ["pot", "cells"] (SpD K F__law_raised) := by
  refine fnD_ok T.F__law_raised sc__law_raised (fun xs m Pp h => by cases h; rfl) (fun cdv A outer s H E rm xs m Pp hF => ?_)
  cases hF with | @mk p a b c ws m Pp ha hb hc hpf ho hl h =>
  refine wss_cons (ws_if (wt_cmp (wg_call (ok__law_take T) (rm.mono (by decide)) T.m__law_take T.F__law_take.kp T.b__law_take (EA.to (ea_cons (ee_var (i := 0) rfl) (ea_cons ee_int ea_nil)) ⟨[], _, rfl, .mk ha hb ⟨hc.1, by omega⟩ (by decide) hpf fun d a1 c1 h1 h2 h3 => EE.to ee_int ⟨_, cd_eq, ?_⟩⟩))))
  by_cases hd : d = 0
  · rw [if_pos (decide_eq_true hd)]
    exact wss_one (ws_ret (wg_call (ok__law_chip_torn T) (rm.mono (by decide)) T.m__law_chip_torn T.F__law_chip_torn.kp T.b__law_chip_torn (wa_cons (EE.to (ee_var (i := 1) rfl) (wa_cons (wg_call (ok__law_chip_pattern T) (rm.mono (by decide)) T.m__law_chip_pattern T.F__law_chip_pattern.kp T.b__law_chip_pattern (EA.to (ea_cons (ee_var (i := 0) rfl) ea_nil) ⟨[], _, rfl, .mk h2 hb ⟨h3.1, by omega⟩ hpf fun us a2 c2 hu hul h4 h5 => wa_nil ⟨[], _, rfl, _, R__law_chip_torn.mk ho (by omega) hu (by omega), h _ a2 c2 (torn_ok ho hu) (by rw [torn_len]; exact hl) (torn_up hl) h4 ⟨h5.1, by omega⟩⟩⟩)))))))
  · rw [if_neg (by rw [decide_eq_true_eq]; exact hd)]
    refine wss_nil (wss_cons (ws_set (i := 2) sc__law_raised.nd (we_listSO (ee_var (i := 1) rfl) (by rw [C_len]; omega) (fun q hq => ?_) T.m_list bo_list)))
    have hqp : q ≠ p := fun z => hq (by rw [z]; exact List.mem_cons_self)
    refine wss_cons (ws_for (js := [3]) (wi_range1 (wg_call (ok__law_of T) (rm.mono (by decide)) T.m__law_of T.F__law_of.kp T.b__law_of (EA.to (ea_cons (ee_var (i := 0) rfl) (ea_cons (ee_lst (eap_cons ee_int (eap_cons ee_int (eap_cons ee_int (eap_cons ee_int eap_nil))))) ea_nil)) ⟨[(q, _)], _, rfl, .mk h2 hb ⟨h3.1, by omega⟩ (by decide) hpf fun dn a2 c2 h4 h5 h6 => ?_⟩)) T.m_range))
    obtain ⟨n, rfl, hn⟩ := lap_many h4
    refine ⟨n, rfl, by omega, fun i ds' m' => ∃ (us : List Nat) (a' c' : Int) (y3 y4 : Option SD), Ok us ∧ us.length = 256 ∧ Up ws us ∧ 0 ≤ a' ∧ (0 ≤ c' ∧ c' ≤ c + 2 + 5 * i) ∧ ds' = [some (.raw (.ref p)), some (C ws), some (.raw (.ref q)), y3, y4] ∧ m' = (q, .dl (cl us)) :: Pt p a' b c' :: m, ⟨ws, a2, c2, none, none, ho, hl, Up.refl ws, h5, ⟨h6.1, by omega⟩, rfl, rfl⟩, ?_, ?_⟩
    · rintro i x ds' m' hx ⟨us, a3, c3, y3, y4, hou, hlu, hup, ha3, hc3, rfl, rfl⟩
      have hlt := get_lt hx
      rw [List.length_map, List.length_range] at hlt
      refine wg_name ?_ sc__law_raised.nd
      refine wss_cons (ws_set (i := 4) sc__law_raised.nd (wg_call (ok__law_of T) (rm.mono (by decide)) T.m__law_of T.F__law_of.kp T.b__law_of (wa_cons (EE.to (ee_var (i := 0) rfl) (wa_cons (we_lst (wa_cons (wg_call (ok__law_take T) (rm.mono (by decide)) T.m__law_take T.F__law_take.kp T.b__law_take (EA.to (ea_cons (ee_var (i := 0) rfl) (ea_cons ee_int ea_nil)) ⟨[(q, _)], _, rfl, .mk ha3 hb ⟨hc3.1, by omega⟩ (by decide) hpf fun d1 a4 c4 k1 k2 k3 => wa_cons (wg_call (ok__law_take T) (rm.mono (by decide)) T.m__law_take T.F__law_take.kp T.b__law_take (EA.to (ea_cons (ee_var (i := 0) rfl) (ea_cons ee_int ea_nil)) ⟨[(q, _)], _, rfl, .mk k2 hb ⟨k3.1, by omega⟩ (by decide) hpf fun d2 a5 c5 k4 k5 k6 => wa_cons (we_bin (EE.to ee_int (wg_call (ok__law_take T) (rm.mono (by decide)) T.m__law_take T.F__law_take.kp T.b__law_take (EA.to (ea_cons (ee_var (i := 0) rfl) (ea_cons ee_int ea_nil)) ⟨[(q, _)], _, rfl, .mk k5 hb ⟨k6.1, by omega⟩ (by decide) hpf fun d3 a6 c6 k7 k8 k9 => ⟨_, bd_add, wa_nil ⟨[.int d1, .int d2, .int (226 + d3)], rfl, by simp, wa_nil ⟨[(q, _)], _, rfl, .mk k8 hb ⟨k9.1, by omega⟩ (by simp) hpf fun dd a7 c7 j1 j2 j3 => ?_⟩⟩⟩⟩))))⟩))⟩)))))))))
      obtain ⟨k, rfl, hk⟩ := at_one j1 k1 k4 k7
      have hw16 := w0_lt hou k.toNat
      have hfl := hex_from_len hw16
      refine wss_one (ws_store (p := q) (j := k) (ee_var (i := 2) rfl) (ee_var (i := 4) rfl) (wg_call (ok__law_of T) (rm.mono (by decide)) T.m__law_of T.F__law_of.kp T.b__law_of (wa_cons (EE.to (ee_var (i := 0) rfl) (wa_cons (we_callTy (wa_cons (we_view (i := 2) (p := q) (l := cl us) rfl List.mem_cons_self (ee_slice (ee_strS (l := [48, 49, 50, 51, 52, 53, 54, 55, 56, 57, 97, 98, 99, 100, 101, 102])) (eo_some (eg_call (ok__law_code_worth T) (rm.mono (by decide)) T.m__law_code_worth T.F__law_code_worth.kp T.b__law_code_worth (ea_cons (ee_sub (ee_var (i := 2) rfl) (ee_var (i := 4) rfl) (fun m => by walk_at "sd")) ea_nil) (by walk_at "call _law_code_worth"))) eo_none (fun m => by walk_at "sl")) sc_str (wa_nil ⟨_, ca_listS rfl (Nat.le_trans (cut_le (n := 16) (by decide)) (by decide)), wa_nil ⟨[(q, _)], _, rfl, .mk j2 hb ⟨j3.1, by omega⟩ hfl hpf fun dv a8 c8 i1 i2 i3 => ?_⟩⟩))) T.m_list bo_list))))))
      obtain ⟨v, hv1, hv2, rfl⟩ := hex_from hw16 i1
      refine ⟨_, cl us, rfl, List.mem_cons_self, hk.1, by rw [cl_len]; omega, ?_⟩
      rw [List.singleton_append, mset_head (show q ∉ ad (Pt p a8 b c8 :: m) from hq), cl_set]
      refine ⟨us.set k.toNat v, a8, c8, _, _, fun x hx => ?_, by rw [List.length_set, hlu], Up.set (by omega) hup (Nat.le_trans (hup _ (by omega)) hv1), i2, ⟨i3.1, by omega⟩, rfl, rfl⟩
      rcases List.mem_or_eq_of_mem_set hx with z | z
      · exact hou x z
      · omega
    · rintro ds' m' ⟨us, a3, c3, y3, y4, hou, hlu, hup, ha3, hc3, rfl, rfl⟩
      rw [List.length_map, List.length_range] at hc3
      refine wss_seal (i := 2) rfl (wss_one (ws_retE (ee_meth PySem.F.plainAttrs_str PySem.F.slot_str_join PySem.F.type_str_join (EE.is (ee_strS (l := [])) (show S [] = C [] from rfl)) (ea_cons (ee_var (i := 2) rfl) ea_nil) (fun m => by walk_at "md")) (h us a3 c3 hou hlu hup ha3 ⟨hc3.1, by omega⟩)))
theorem ok__law_fallen (T : Tx K mg) : FnG P w K mg base CX0 3 T.a__law_fallen T.d__law_fallen ["pot", "cells"] (SpD K F__law_fallen) := by
  refine fnD_ok T.F__law_fallen sc__law_fallen (fun xs m Pp h => by cases h; rfl) (fun cdv A outer s H E rm xs m Pp hF => ?_)
  cases hF with | @mk p a b c ws m Pp ha hb hc hpf ho hl h =>
  refine wss_cons (ws_set (i := 2) sc__law_fallen.nd (wg_call (ok__law_of T) (rm.mono (by decide)) T.m__law_of T.F__law_of.kp T.b__law_of (wa_cons (EE.to (ee_var (i := 0) rfl) (wa_cons (we_lst (wa_cons (wg_call (ok__law_take T) (rm.mono (by decide)) T.m__law_take T.F__law_take.kp T.b__law_take (EA.to (ea_cons (ee_var (i := 0) rfl) (ea_cons ee_int ea_nil)) ⟨[], _, rfl, .mk ha hb ⟨hc.1, by omega⟩ (by decide) hpf fun d1 a4 c4 k1 k2 k3 => wa_cons (wg_call (ok__law_take T) (rm.mono (by decide)) T.m__law_take T.F__law_take.kp T.b__law_take (EA.to (ea_cons (ee_var (i := 0) rfl) (ea_cons ee_int ea_nil)) ⟨[], _, rfl, .mk k2 hb ⟨k3.1, by omega⟩ (by decide) hpf fun d2 a5 c5 k4 k5 k6 => wa_cons (we_bin (EE.to ee_int (wg_call (ok__law_take T) (rm.mono (by decide)) T.m__law_take T.F__law_take.kp T.b__law_take (EA.to (ea_cons (ee_var (i := 0) rfl) (ea_cons ee_int ea_nil)) ⟨[], _, rfl, .mk k5 hb ⟨k6.1, by omega⟩ (by decide) hpf fun d3 a6 c6 k7 k8 k9 => ⟨_, bd_add, wa_nil ⟨[.int d1, .int d2, .int (226 + d3)], rfl, by simp, wa_nil ⟨[], _, rfl, .mk k8 hb ⟨k9.1, by omega⟩ (by simp) hpf fun dd a7 c7 j1 j2 j3 => ?_⟩⟩⟩⟩))))⟩))⟩)))))))))
  obtain ⟨k, rfl, hk⟩ := at_one j1 k1 k4 k7
  have hw16 := w0_lt ho k.toNat
  have hc1 : (cut ws none (some k)).length ≤ 256 := cut_le (by omega)
  have hc2 : (cut ws (some (k + 1)) none).length ≤ 256 := cut_le (by omega)
  refine wss_cons (ws_ife (et_cmp (ee_sub (ee_var (i := 1) rfl) (ee_var (i := 2) rfl) (fun m => by walk_at "sd")) (EE.is (ee_strS (l := [48])) (show S [48] = C [0] from rfl)) (by walk_at "cd")) (fun hz => ?_) fun hz => wss_nil ?_)
  · exact wss_one (ws_retE (ee_tup (eap_cons (ee_var (i := 1) rfl) (eap_cons ee_non eap_nil))) (h ws .none a7 c7 ho hl (.inl ⟨rfl, rfl⟩) j2 ⟨j3.1, by omega⟩))
  · have hz : ¬ w0 ws k.toNat = 0 := fun z => by
      have := of_decide_eq_false hz
      exact this (by rw [z])
    have hfl := hex_upto_len (k := w0 ws k.toNat) (by omega) hw16
    have hll : (cut hexS none (some ((w0 ws k.toNat : Nat) : Int))).length ≤ 1000000 := Nat.le_trans (cut_le (n := 16) (by decide)) (by decide)
    refine wss_one (ws_ret (we_tup (wa_cons (we_bin (we_bin (EE.to (ee_slice (ee_var (i := 1) rfl) eo_none (eo_some (ee_var (i := 2) rfl)) (fun m => by walk_at "sl")) (wg_call (ok__law_of T) (rm.mono (by decide)) T.m__law_of T.F__law_of.kp T.b__law_of (EA.to (ea_cons (ee_var (i := 0) rfl) (ea_cons (ee_callTy (ea_cons (ee_slice (ee_strS (l := [48, 49, 50, 51, 52, 53, 54, 55, 56, 57, 97, 98, 99, 100, 101, 102])) eo_none (eo_some (eg_call (ok__law_code_worth T) (rm.mono (by decide)) T.m__law_code_worth T.F__law_code_worth.kp T.b__law_code_worth (ea_cons (ee_sub (ee_var (i := 1) rfl) (ee_var (i := 2) rfl) (fun m => by walk_at "sd")) ea_nil) (by walk_at "call _law_code_worth"))) (fun m => by walk_at "sl")) ea_nil) (fun m => by walk_at "ca") T.m_list bo_list) ea_nil)) ⟨[], _, rfl, .mk j2 hb ⟨j3.1, by omega⟩ hfl hpf fun dv a8 c8 i1 i2 i3 => ?_⟩))))))))
    obtain ⟨v, hv1, rfl⟩ := hex_upto hw16 i1
    refine ⟨C (cut ws none (some k) ++ [v]), bd_addC (by walk_at "sz"), EE.to (ee_slice (ee_var (i := 1) rfl) (eo_some (ee_bin (ee_var (i := 2) rfl) ee_int (by walk_at "bd"))) eo_none (fun m => by walk_at "sl")) ⟨C (cut ws none (some k) ++ [v] ++ cut ws (some (k + 1)) none), bd_addC (by walk_at "sz"), wa_cons (EE.to (ee_var (i := 2) rfl) (wa_nil ⟨[.str _, .int k], rfl, by simp, ?_⟩))⟩⟩
    have e := set_cut (ws := ws) (p := k.toNat) (v := v) (i := k) (j := k + 1) (by omega) (by omega) (by omega)
    rw [e]
    have z := h (ws.set k.toNat v) (.int (k.toNat : Nat)) a8 c8 (fun x hx => ?_) (by rw [List.length_set, hl]) (.inr ⟨k.toNat, v, by omega, rfl, rfl⟩) i2 ⟨i3.1, by omega⟩
    · rw [Int.toNat_of_nonneg hk.1] at z
      exact z
    · rcases List.mem_or_eq_of_mem_set hx with z | z
      · exact ho x z
      · omega
end
end K08
end W9
namespace W9
namespace K08
open PySem PySem.Spec PyProof.Rows L2
local macro_rules | `(tactic| walk_at "lt") => `(tactic| first | assumption | exact w0_lt (by assumption) _ | exact w0_lt (sealT_ok _) _ | omega | exact Ok.get (by assumption) (by assumption) | exact (by assumption : Ok _) _ (by assumption))
local macro_rules | `(tactic| walk_at "sz") => `(tactic| first | assumption | omega | decide | (simp only [List.length_append, List.length_map]; omega) | (simp only [List.length_append, List.length_take, List.length_drop, List.length_map, List.length_replicate, List.length_range, List.length_reverse, List.length_cons, List.length_nil, digs_length, tw_length, enc_length, rep_length, tailOf_length]; omega))
local macro_rules | `(tactic| walk_at "ok") => `(tactic| first | assumption | exact Ok.tk _ (by assumption) | exact Ok.dp _ (by assumption) | exact Ok.tk _ (Ok.dp _ (by assumption)) | exact digs_ok _ _ | exact cmpl_ok | exact cellsOf_ok _ | exact sealT_ok _ | exact cut_ok (by assumption) _ _ | exact rep_ok (by decide) | exact Ok.nil | exact Ok.one (w0_lt (by assumption) _) | exact Ok.one (w0_lt (sealT_ok _) _) | exact Ok.one (by decide) | exact Ok.app (Ok.one (by decide)) (Ok.one (by decide)))
local macro_rules | `(tactic| walk_at "bd") => `(tactic| first | exact bd_add | exact bd_sub | exact bd_mul (by omega) | exact bd_mul (by have := rng_of (by assumption); omega) | exact bd_mod (by omega) | exact bd_pow (by omega) | exact bd_powX (by decide +kernel) | exact bd_mod (by decide +kernel) | exact bd_mulB | exact bd_mod (by have := of_decide_eq_false (by assumption); omega) | exact bd_div (by omega) | exact bd_addC (by walk_at "sz") | exact bd_mulC (by walk_at "sz") | exact bd_mulC ⟨by decide, by decide, by assumption⟩ | exact bd_addS (by walk_at "sz") | exact bd_catL (by walk_at "sz"))
local macro_rules | `(tactic| walk_at "cd") => `(tactic| first | exact cd_lt | exact cd_ltC (by walk_at "lt") (by walk_at "lt") | exact cd_le | exact cd_gt | exact cd_ge | exact cd_eq | exact cd_ne | exact cd_eqC (by walk_at "ok") (by walk_at "ok") | exact cd_neC (by walk_at "ok") (by walk_at "ok") | exact cd_inHex (by walk_at "lt") | exact cd_inS | exact cd_isN | exact cd_notN | exact cd_gtS | exact cd_inT ‹Rm 0 _› (by assumption) sh_et | exact cd_eqS | exact cd_neS)
local macro_rules | `(tactic| walk_at "md") => `(tactic| first | exact md_joinCl (by walk_at "sz") | exact md_hex (by walk_at "lt") | exact md_joinC1 (by walk_at "sz") | exact md_joinCf (f := digs 2) (k := 2) (fun _ _ => by rw [digs_length]; decide) (by walk_at "sz") | exact md_joinS (by walk_at "sz") | exact md_index (low_occ _ (by omega) (by omega) (by omega)) | exact md_index (high_occ _ (by omega) (by omega) (by omega)))
local macro_rules | `(tactic| walk_at "sd") => `(tactic| first | exact sd_hexM | exact sd_hexT (by walk_at "lt") | exact sd_C (by assumption) (by walk_at "sz") | exact sd_C (w0_get (by omega)) (by walk_at "sz") | exact sd_Ci (by have := rng_of (by assumption); omega) (w0_get (by have := rng_of (by assumption); omega)) (by walk_at "sz") | exact sd_Ci (by omega) (w0_get (by omega)) (by walk_at "sz") | exact sd_C (w0_get (Nat.lt_of_lt_of_le ((by assumption : ∀ a, a ∈ _ → a < 256) _ (by assumption)) (Nat.le_of_eq (Eq.symm (by assumption))))) (by walk_at "sz") | exact sd_hexN (by omega) (by omega) | exact sd_ints (l := [2147483647, 2147483629, 2147483587, 2147483579, 2147483563]) (by omega) (by simp only [List.length_cons, List.length_nil]; omega) | exact sd_cl (by omega) (by omega) | exact sd_lst rfl | exact sd_tup rfl | exact sd_low (by omega) | exact sd_high (by omega))
local macro_rules | `(tactic| walk_at "sl") => `(tactic| first | exact sl_C0n (b := 226) (by walk_at "sz") | exact sl_C0n (b := 226) (by walk_at "sz") | exact sl_Cn0 (a := 226) (by walk_at "sz") | exact sl_C (by walk_at "sz") | exact sl_L | exact sl_S (by walk_at "sz"))
local macro_rules | `(tactic| walk_at "rg") => `(tactic| first | exact rg_pairs | omega)
local macro_rules | `(tactic| walk_at "ca") => `(tactic| first | exact ca_minL2 rfl | exact ca_isiStr | exact ca_lenC (by walk_at "sz") | exact ca_allm rfl | exact ca_lenS (by walk_at "sz") | exact ca_lenL | exact ca_lenT | exact ca_tupL | exact ca_ord | exact ca_int | exact ca_intB | exact ca_abs | exact ca_max2 rfl | exact ca_min2 rfl | exact ca_listS rfl (by walk_at "sz"))
local macro_rules | `(tactic| walk_at "call cell_number") => `(tactic| exact .mk (by walk_at "lt"))
local macro_rules | `(tactic| walk_at "call number_in_cells") => `(tactic| exact .mk (by walk_at "ok"))
local macro_rules | `(tactic| walk_at "call cells_of_number") => `(tactic| first | exact .mk (k := 2) (by decide) | exact .mk (by walk_at "sz"))
local macro_rules | `(tactic| walk_at "call contrary") => `(tactic| exact .mk (by walk_at "ok") (by walk_at "sz"))
local macro_rules | `(tactic| walk_at "call sums_of") => `(tactic| exact .mk (by walk_at "ok") (by walk_at "sz"))
local macro_rules | `(tactic| walk_at "call sum_cells") => `(tactic| exact .mk)
local macro_rules | `(tactic| walk_at "call sign_number") => `(tactic| first | exact .mk (by assumption) | exact .mk ((by assumption : OkT _) _ (by assumption)))
local macro_rules | `(tactic| walk_at "call sign_of") => `(tactic| exact .mk (by assumption))
local macro_rules | `(tactic| walk_at "call is_page_text") => `(tactic| exact .mk (by assumption) (by assumption))
local macro_rules | `(tactic| walk_at "call text_cells") => `(tactic| exact .mk (by assumption) (by assumption))
local macro_rules | `(tactic| walk_at "fl") => `(tactic| first | rfl | exact int_ne255 | (have z := (by assumption : ∀ x : Nat × Nat, x ∈ List.zip _ _ → x.1 < 16 ∧ x.2 < 16); have z2 := z _ (by assumption); exact dig_ltS z2.2 z2.1) | simp)
local macro_rules | `(tactic| walk_at "call signs_in") => `(tactic| exact .mk (by walk_at "ok") (by walk_at "sz") (by walk_at "sz"))
local macro_rules | `(tactic| walk_at "call sealed_page") => `(tactic| exact .mk (by assumption) (by assumption))
local macro_rules | `(tactic| walk_at "call told_sums") => `(tactic| exact .mk (by walk_at "ok") (by walk_at "sz"))
local macro_rules | `(tactic| walk_at "call fallen_in_text") => `(tactic| exact .mk (by walk_at "ok") (by walk_at "sz"))
local macro_rules | `(tactic| walk_at "call fallen_in_sums") => `(tactic| exact .mk (by walk_at "ok") (by walk_at "sz"))
local macro_rules | `(tactic| walk_at "call are_cells") => `(tactic| exact .mk (by walk_at "ok") (by walk_at "sz"))
local macro_rules | `(tactic| walk_at "call is_page") => `(tactic| exact .mk (by walk_at "ok") (by walk_at "sz"))
local macro_rules | `(tactic| walk_at "call _law_code_worth") => `(tactic| exact .mk (by walk_at "lt"))
local macro_rules | `(tactic| walk_at "call _law_code_number") => `(tactic| exact .mk (by walk_at "ok"))
local macro_rules | `(tactic| walk_at "call _law_code_figures") => `(tactic| first | exact .mk (k := 2) (by decide) | exact .mk (by walk_at "sz"))
local macro_rules | `(tactic| walk_at "call _law_code_turned") => `(tactic| exact .mk (by walk_at "ok") (by walk_at "sz"))
local macro_rules | `(tactic| walk_at "call _law_code_sums") => `(tactic| exact .mk (by walk_at "ok") (by walk_at "sz"))
local macro_rules | `(tactic| walk_at "call _law_code_tail") => `(tactic| exact .mk (by walk_at "ok") (by walk_at "sz"))
local macro_rules | `(tactic| walk_at "call _law_code_signs") => `(tactic| exact .mk)
local macro_rules | `(tactic| walk_at "call _law_code_unlike") => `(tactic| exact .mk (by walk_at "ok") (by walk_at "sz") (by walk_at "ok") (by walk_at "sz"))
local macro_rules | `(tactic| walk_at "call _law_code_fallen") => `(tactic| exact .mk (by walk_at "ok") (by walk_at "sz") (by walk_at "ok") (by walk_at "sz"))
local macro_rules | `(tactic| walk_at "call _law_code_sealed") => `(tactic| exact .mk (by assumption) (by assumption))
local macro_rules | `(tactic| walk_at "call _law_code_text") => `(tactic| exact .mk (by walk_at "ok") (by walk_at "sz"))
local macro_rules | `(tactic| walk_at "call _law_code_told") => `(tactic| exact .mk (by walk_at "ok") (by walk_at "sz"))
local macro_rules | `(tactic| walk_at "call _law_code_lifted") => `(tactic| exact .mk (by walk_at "ok") (by walk_at "sz"))
local macro_rules | `(tactic| walk_at "call _law_code_opened") => `(tactic| exact .mk (by walk_at "ok") (by walk_at "sz"))
local macro_rules | `(tactic| walk_at "rep") => `(tactic| assumption)
local macro_rules | `(tactic| walk_at "call sums") => `(tactic| exact .mk (by walk_at "ok") (by walk_at "sz"))
local macro_rules | `(tactic| walk_at "call opened") => `(tactic| exact .mk (by walk_at "ok") (by walk_at "sz"))
local macro_rules | `(tactic| walk_at "call _law_cells") => `(tactic| exact .mk)
local macro_rules | `(tactic| walk_at "call is_page_text") => `(tactic| exact .mk (by assumption) (by assumption))
local macro_rules | `(tactic| walk_at "call sealed") => `(tactic| exact .mk (by assumption) (by assumption))
local macro_rules | `(tactic| walk_at "asc") => `(tactic| exact asc_C (by walk_at "ok"))
local macro_rules | `(tactic| walk_at "zl") => `(tactic| (rw [List.length_map, List.length_map]; omega))
local macro_rules | `(tactic| walk_at "call _law_many_greater") => `(tactic| exact .mk (by walk_at "ok") (by walk_at "sz") (by walk_at "ok") (by walk_at "sz"))
local macro_rules | `(tactic| walk_at "call _law_is_told") => `(tactic| exact .mk (by assumption) (by assumption) (by assumption) (by assumption) (by assumption))

theorem lay_tx {t : List Nat} (h : ∀ c ∈ t, c < 0x110000) : PyData.canLay0 (tx t) = true := by
  simp only [PyData.canLay0, PyData.strOk]
  simpa using h
theorem lay_tup {l : List PyData} (h : ∀ d ∈ l, PyData.canLay0 d = true) : PyData.canLay0 (.tuple l) = true := by
  have e : ∀ l : List PyData, (∀ d ∈ l, PyData.canLay0 d = true) → PyData.canLayAll0 l = true := fun l => by
    induction l with
    | nil => intro _; simp [PyData.canLayAll0]
    | cons d l ih => intro h; simp only [PyData.canLayAll0, Bool.and_eq_true]; exact ⟨h d List.mem_cons_self, ih fun x hx => h x (List.mem_cons_of_mem _ hx)⟩
  simp only [PyData.canLay0]
  exact e l h
theorem lay_int {i : Int} : PyData.canLay0 (.int i) = true := by simp [PyData.canLay0]
theorem sh_one {t : List Nat} (h : ∀ c ∈ t, c < 0x110000) : SeqAt.shaped (.tuple [tx t]) = true := by
  unfold SeqAt.shaped
  rw [lay_tup (by intro d hd; rw [List.mem_singleton] at hd; rw [hd]; exact lay_tx h)]
  simp [PyData.depth, PyData.depthAll]
theorem sh_two {t u : List Nat} (h : ∀ c ∈ t, c < 0x110000) (h2 : ∀ c ∈ u, c < 0x110000) : SeqAt.shaped (.tuple [tx t, tx u]) = true := by
  unfold SeqAt.shaped
  rw [lay_tup (by intro d hd; simp only [List.mem_cons, List.not_mem_nil, or_false] at hd; rcases hd with e | e <;> (rw [e]; first | exact lay_tx h | exact lay_tx h2))]
  simp [PyData.depth, PyData.depthAll]
theorem sh_three {t u : List Nat} {i : Int} (h : ∀ c ∈ t, c < 0x110000) (h2 : ∀ c ∈ u, c < 0x110000) : SeqAt.shaped (.tuple [tx t, tx u, .int i]) = true := by
  unfold SeqAt.shaped
  rw [lay_tup (by intro d hd; simp only [List.mem_cons, List.not_mem_nil, or_false] at hd; rcases hd with e | e | e <;> (rw [e]; first | exact lay_tx h | exact lay_tx h2 | exact lay_int))]
  simp [PyData.depth, PyData.depthAll]
theorem sh_et : SeqAt.shaped (.tuple [.tuple [tx nE], .tuple [tx nT]]) = true := by
  unfold SeqAt.shaped
  rw [lay_tup (by
    intro d hd
    simp only [List.mem_cons, List.not_mem_nil, or_false] at hd
    rcases hd with e | e <;> (rw [e]; exact lay_tup (by intro d hd; rw [List.mem_singleton] at hd; rw [hd]; exact lay_tx (by decide))))]
  simp [PyData.depth, PyData.depthAll]
theorem eqv_e : ([PyData.tuple [tx nE], .tuple [tx nT]].any fun z => PyData.eqv z (.tuple [tx nE])) = true := by simp [PyData.eqv, PyData.eqvAll]
theorem eqv_t : ([PyData.tuple [tx nE], .tuple [tx nT]].any fun z => PyData.eqv z (.tuple [tx nT])) = true := by simp [PyData.eqv, PyData.eqvAll]
inductive R__law_is_told : List SD → SD → Prop
  | mk {t ws : List Nat} (ht : OkT t) (htl : t.length ≤ 113) (ho : Ok ws) (hl : ws.length = 256) (h1 : Low1 ws (sealT t)) : R__law_is_told [S t, C ws] (B true)
inductive F__law_near_text : FT
  | mk {p : Addr} {a b c : Int} {t : List Nat} {m : MS} {P : SD → MS → Prop} (ha : 0 ≤ a) (hb : PB b) (hc : 0 ≤ c ∧ c ≤ 90000) (hpf : p ∉ ad m) (ht : OkT t) (hl : t.length ≤ 113)
      (h : ∀ (u : List Nat) (a' c' : Int), OkT u → u.length ≤ 113 → 0 ≤ a' → (0 ≤ c' ∧ c' ≤ c + 10) → P (S u) (Pt p a' b c' :: m)) : F__law_near_text [.raw (.ref p), S t] (Pt p a b c :: m) P
def cnt (a b : List Nat) : Nat := ((List.zip a b).filter fun q => decide (q.2 < q.1)).length
inductive R__law_many_greater : List SD → SD → Prop
  | mk {a b : List Nat} (h : Ok a) (hl : a.length = 256) (h2 : Ok b) (hl2 : b.length = 256) : R__law_many_greater [C a, C b] (I (cnt a b : Nat))
theorem filter_two {α : Type} {P : α → Bool} : ∀ {l : List α} {p q : Nat} {x y : α}, p < q → l[p]? = some x → l[q]? = some y → P x = true → P y = true → 2 ≤ (l.filter P).length
  | [], p, q, x, y, _, h1, _, _, _ => by simp at h1
  | z :: l, 0, q + 1, x, y, _, h1, h2, hx, hy => by
    have e : z = x := Option.some.inj h1
    subst e
    have hm : y ∈ l.filter P := List.mem_filter.mpr ⟨List.mem_of_getElem? (show l[q]? = some y from h2), hy⟩
    rw [List.filter_cons_of_pos hx, List.length_cons]
    have := List.length_pos_of_mem hm
    omega
  | z :: l, p + 1, q + 1, x, y, h, h1, h2, hx, hy => by
    have ih := filter_two (l := l) (p := p) (q := q) (by omega) h1 h2 hx hy
    by_cases hz : P z = true
    · rw [List.filter_cons_of_pos hz, List.length_cons]; omega
    · rw [List.filter_cons_of_neg hz]; exact ih
theorem cnt_two {a b : List Nat} (hl : a.length = 256) (hl2 : b.length = 256) {p q : Nat} (hpq : p < q) (hq : q < 256) (g1 : w0 b p < w0 a p) (g2 : w0 b q < w0 a q) : 2 ≤ cnt a b := by
  have get : ∀ i, i < 256 → (List.zip a b)[i]? = some (w0 a i, w0 b i) := fun i hi => List.getElem?_zip_eq_some.mpr ⟨w0_get (by omega), w0_get (by omega)⟩
  exact filter_two hpq (get p (by omega)) (get q hq) (decide_eq_true g1) (decide_eq_true g2)
theorem okT_cut {t : List Nat} (h : OkT t) (lo hi : Option Int) : OkT (cut t lo hi) := fun c hc => h c (List.mem_of_mem_drop (List.mem_of_mem_take hc))
theorem okT_app {t u : List Nat} (h : OkT t) (h2 : OkT u) : OkT (t ++ u) := fun c hc => (List.mem_append.mp hc).elim (h c) (h2 c)
theorem zip_sgn (a b : List Nat) : ((List.zip (a.map dig) (b.map dig)).map fun (q : Nat × Nat) => Tp [sgn q.1, sgn q.2]) = (List.zip a b).map fun (q : Nat × Nat) => Tp [sgn (dig q.1), sgn (dig q.2)] := by
  rw [List.zip_map, List.map_map]
  rfl
section
variable {P : Program} {w : World} {K : PySem.W.Frag} {mg : Str → Option Value} {base : Heap}
theorem ok__law_many_greater (T : Tx K mg) : FnG P w K mg base CX0 1 T.a__law_many_greater T.d__law_many_greater ["one", "other"] (SpD K (pureF R__law_many_greater)) := by
  refine fnD_ok T.F__law_many_greater sc__law_many_greater (fun xs m Pp ⟨d, h, _⟩ => by cases h; rfl) (fun cdv A outer s H E rm xs m Pp ⟨d, hR, hp⟩ => ?_)
  cases hR with | @mk a b ho hl ho2 hl2 =>
  have hz : ∀ x, x ∈ List.zip a b → x.1 < 16 ∧ x.2 < 16 := fun x hx => ⟨ho _ (List.of_mem_zip hx).1, ho2 _ (List.of_mem_zip hx).2⟩
  have hlz : (List.zip a b).length ≤ 1000000 := by rw [List.length_zip]; omega
  refine wss_one (ws_retE (EE.is (ee_callB (ea_cons (ee_lctf (List.zip a b) (fun q => sgn (dig q.1)) (fun q => sgn (dig q.2)) (fun q => decide (q.2 < q.1)) (fun _ => PyData.int 1) [("mine", 2), ("its", 3)] rfl sc__law_many_greater.nd (EI.is (ei_zipS (ee_var (i := 0) rfl) (ee_var (i := 1) rfl) (by walk_at "zl") (by walk_at "asc") (by walk_at "asc") T.m_zip) (zip_sgn a b)) (by walk_at "sz") (fun a ha s H Ce cl fp => ET.is (et_cmp (ee_var (i := 2) rfl) (ee_var (i := 3) rfl) (by walk_at "cd")) (by walk_at "fl")) (fun a ha hp s H Ce cl fp => ee_int) (fun _ _ _ _ _ _ _ _ _ _ p => wg_tup (wgs_cons (wg_name (wgs_cons (wg_name (wgs_nil p) sc__law_many_greater.nd)) sc__law_many_greater.nd))) (blkOk_by (by rfl))) ea_nil) (fun m => by walk_at "ca") T.m_len bo_len) (I_eq (b := (cnt a b : Nat)) (by rw [List.length_map]; rfl))) hp)
theorem ok__law_is_told (T : Tx K mg) : FnG P w K mg base CX0 7 T.a__law_is_told T.d__law_is_told ["text", "cells"] (SpD K (pureF R__law_is_told)) := by
  refine fnD_ok T.F__law_is_told sc__law_is_told (fun xs m Pp ⟨d, h, _⟩ => by cases h; rfl) (fun cdv A outer s H E rm xs m Pp ⟨d, hR, hp⟩ => ?_)
  cases hR with | @mk t ws ht htl ho hl hlow =>
  have hr2 := rep_lo ho hl
  have hr3 : Rep (po ws) := by rw [po_lo ho hl]; exact hr2
  refine wss_cons (ws_setE (i := 2) sc__law_is_told.nd (eg_call (ok_opened T) (rm.mono (by decide)) T.m_opened T.F_opened.kp T.b_opened (ea_cons (ee_var (i := 1) rfl) ea_nil) (by walk_at "call opened")) ?_)
  refine wss_cons (ws_ife (k := false) (ET.is (et_cmp (ee_reprR (ee_var (i := 2) rfl) (rm.mono (by decide)) (by walk_at "rep") T.m_repr) (ee_reprR (eg_call (ok__law_code_opened T) (rm.mono (by decide)) T.m__law_code_opened T.F__law_code_opened.kp T.b__law_code_opened (ea_cons (ee_var (i := 1) rfl) ea_nil) (by walk_at "call _law_code_opened")) (rm.mono (by decide)) (by walk_at "rep") T.m_repr) cd_neT) (by rw [po_lo ho hl]; simp)) (fun h => by cases h) fun _ => wss_nil ?_)
  rw [po_lo ho hl]
  have rm0 : Rm 0 _ := rm.mono (by decide)
  have okc : ∀ c ∈ t, c < 0x110000 := fun c hc => by have := al_lt (ht c hc); omega
  rcases lo_told ho hl ht htl hlow with e | e | e | ⟨p, e⟩
  · rw [e]
    have hsh : SeqAt.shaped (.tuple [tx nE]) = true := sh_one (by decide)
    exact wss_one (ws_retE (EE.is (ee_or (l := true) (ee_cmp (ee_var (i := 2) rfl) (ee_tup (eap_cons (ee_tup (eap_cons (ee_strS (l := [101, 109, 112, 116, 121])) eap_nil)) (eap_cons (ee_tup (eap_cons (ee_strS (l := [116, 111, 114, 110])) eap_nil)) eap_nil))) (cd_inT rm0 hsh sh_et)) (fun hk => by rw [eqv_e] at hk; cases hk)) (B_eq (b := true) (by rw [Bool.or_true]))) hp)
  · rw [e]
    have hsh : SeqAt.shaped (.tuple [tx nT]) = true := sh_one (by decide)
    exact wss_one (ws_retE (EE.is (ee_or (l := true) (ee_cmp (ee_var (i := 2) rfl) (ee_tup (eap_cons (ee_tup (eap_cons (ee_strS (l := [101, 109, 112, 116, 121])) eap_nil)) (eap_cons (ee_tup (eap_cons (ee_strS (l := [116, 111, 114, 110])) eap_nil)) eap_nil))) (cd_inT rm0 hsh sh_et)) (fun hk => by rw [eqv_t] at hk; cases hk)) (B_eq (b := true) (by rw [Bool.or_true]))) hp)
  · rw [e]
    have hsh : SeqAt.shaped (.tuple [tx nW, tx t]) = true := sh_two (by decide) okc
    exact wss_one (ws_retE (EE.is (ee_or (ee_cmp (ee_var (i := 2) rfl) (ee_tup (eap_cons (ee_tup (eap_cons (ee_strS (l := [101, 109, 112, 116, 121])) eap_nil)) (eap_cons (ee_tup (eap_cons (ee_strS (l := [116, 111, 114, 110])) eap_nil)) eap_nil))) (cd_inT rm0 hsh sh_et)) (fun hk => ee_one (ee_cmp (ee_sub (ee_var (i := 2) rfl) ee_int (fun m => by walk_at "sd")) (ee_var (i := 0) rfl) (by walk_at "cd")))) (B_eq (b := true) (by simp))) hp)
  · rw [e]
    have hsh : SeqAt.shaped (.tuple [tx nM, tx t, .int p]) = true := sh_three (by decide) okc
    exact wss_one (ws_retE (EE.is (ee_or (ee_cmp (ee_var (i := 2) rfl) (ee_tup (eap_cons (ee_tup (eap_cons (ee_strS (l := [101, 109, 112, 116, 121])) eap_nil)) (eap_cons (ee_tup (eap_cons (ee_strS (l := [116, 111, 114, 110])) eap_nil)) eap_nil))) (cd_inT rm0 hsh sh_et)) (fun hk => ee_one (ee_cmp (ee_sub (ee_var (i := 2) rfl) ee_int (fun m => by walk_at "sd")) (ee_var (i := 0) rfl) (by walk_at "cd")))) (B_eq (b := true) (by simp))) hp)
theorem ok__law_near_text (T : Tx K mg) : FnG P w K mg base CX0 3 T.a__law_near_text T.d__law_near_text ["pot", "text"] (SpD K F__law_near_text) := by
  refine fnD_ok T.F__law_near_text sc__law_near_text (fun xs m Pp h => by cases h; rfl) (fun cdv A outer s H E rm xs m Pp hF => ?_)
  cases hF with | @mk p a b c t m Pp ha hb hc hpf ht hl h =>
  refine wss_cons (ws_set (i := 2) sc__law_near_text.nd (wg_call (ok__law_take T) (rm.mono (by decide)) T.m__law_take T.F__law_take.kp T.b__law_take (EA.to (ea_cons (ee_var (i := 0) rfl) (ea_cons (ee_bin (ee_callB (ea_cons (ee_var (i := 1) rfl) ea_nil) (fun m => by walk_at "ca") T.m_len bo_len) ee_int (by walk_at "bd")) ea_nil)) ⟨[], _, rfl, .mk ha hb ⟨hc.1, by omega⟩ ⟨by omega, by omega⟩ hpf fun k a1 c1 h1 h2 h3 => ?_⟩)))
  have q1 : (cut t none (some k)).length ≤ 113 := cut_le hl
  have q2 : (cut t (some (k + 1)) none).length ≤ 113 := cut_le hl
  have q3 : (cut t (some k) (some (k + 2))).length ≤ 113 := cut_le hl
  have q4 : (cut t (some (k + 2)) none).length ≤ 113 := cut_le hl
  have o97 : OkT [97] := by unfold OkT; decide
  have o98 : OkT [98] := by unfold OkT; decide
  refine wss_cons (ws_setE (i := 3) sc__law_near_text.nd (ee_lst (eap_cons (ee_bin (ee_var (i := 1) rfl) (ee_strS (l := [97])) (by walk_at "bd")) (eap_cons (ee_slice (ee_var (i := 1) rfl) (eo_some ee_int) eo_none (fun m => by walk_at "sl")) (eap_cons (ee_bin (ee_bin (ee_slice (ee_var (i := 1) rfl) eo_none (eo_some (ee_var (i := 2) rfl)) (fun m => by walk_at "sl")) (ee_strS (l := [98])) (by walk_at "bd")) (ee_slice (ee_var (i := 1) rfl) (eo_some (ee_bin (ee_var (i := 2) rfl) ee_int (by walk_at "bd"))) eo_none (fun m => by walk_at "sl")) (by walk_at "bd")) (eap_cons (ee_bin (ee_bin (ee_slice (ee_var (i := 1) rfl) eo_none (eo_some (ee_var (i := 2) rfl)) (fun m => by walk_at "sl")) (ee_revS (ee_slice (ee_var (i := 1) rfl) (eo_some (ee_var (i := 2) rfl)) (eo_some (ee_bin (ee_var (i := 2) rfl) ee_int (by walk_at "bd"))) (fun m => by walk_at "sl")) (by walk_at "sz")) (by walk_at "bd")) (ee_slice (ee_var (i := 1) rfl) (eo_some (ee_bin (ee_var (i := 2) rfl) ee_int (by walk_at "bd"))) eo_none (fun m => by walk_at "sl")) (by walk_at "bd")) eap_nil))))) ?_)
  refine wss_one (ws_ret (we_slice (wg_call (ok__law_of T) (rm.mono (by decide)) T.m__law_of T.F__law_of.kp T.b__law_of (EA.to (ea_cons (ee_var (i := 0) rfl) (ea_cons (ee_var (i := 3) rfl) ea_nil)) ⟨[], _, rfl, .mk h2 hb ⟨h3.1, by omega⟩ ?_ hpf fun d a2 c2 h4 h5 h6 => ?_⟩)) eo_none (eo_some ee_int)))
  · simp
  · have fin : ∀ u : List Nat, OkT u → u.length ≤ 1000 → d = .str ⟨u.toArray⟩ → ∃ z, SlD (bX P w K mg base ["pot", "text", "at", "some"] "_law_near_text" (defScope (topS 71)) T.a__law_near_text cdv A outer s H E) (Pt p a2 b c2 :: m) (.py d) none (some 113) z ∧ Pp z (Pt p a2 b c2 :: m) := fun u hu hul e => by
      rw [e]
      exact ⟨_, sl_S (by omega), h _ a2 c2 (okT_cut hu _ _) (by
        have z := cut_0n u 113
        have z : cut u none (some 113) = u.take 113 := z
        rw [z, List.length_take]
        omega) h5 ⟨h6.1, by omega⟩⟩
    simp only [List.mem_cons, List.not_mem_nil, or_false] at h4
    rcases h4 with e | e | e | e
    · exact fin _ (okT_app ht o97) (by rw [List.length_append]; show _ + 1 ≤ _; omega) e
    · exact fin _ (okT_cut ht _ _) (by have := cut_le (lo := some 1) (hi := none) hl; omega) e
    · exact fin _ (okT_app (okT_app (okT_cut ht _ _) o98) (okT_cut ht _ _)) (by simp only [List.length_append, List.length_cons, List.length_nil]; omega) e
    · exact fin _ (okT_app (okT_app (okT_cut ht _ _) (fun c hc => (okT_cut ht _ _) c (List.mem_reverse.mp hc))) (okT_cut ht _ _)) (by simp only [List.length_append, List.length_reverse]; omega) e
end
end K08
end W9
namespace W9
namespace K08
open PySem PySem.Spec PyProof.Rows L2
local macro_rules | `(tactic| walk_at "lt") => `(tactic| first | assumption | exact w0_lt (by assumption) _ | exact w0_lt (sealT_ok _) _ | omega | exact Ok.get (by assumption) (by assumption) | exact (by assumption : Ok _) _ (by assumption))
local macro_rules | `(tactic| walk_at "sz") => `(tactic| first | assumption | omega | decide | (simp only [List.length_append, List.length_map]; omega) | (simp only [List.length_append, List.length_take, List.length_drop, List.length_map, List.length_replicate, List.length_range, List.length_reverse, List.length_cons, List.length_nil, digs_length, tw_length, enc_length, rep_length, tailOf_length]; omega))
local macro_rules | `(tactic| walk_at "ok") => `(tactic| first | assumption | exact Ok.tk _ (by assumption) | exact Ok.dp _ (by assumption) | exact Ok.tk _ (Ok.dp _ (by assumption)) | exact digs_ok _ _ | exact cmpl_ok | exact cellsOf_ok _ | exact sealT_ok _ | exact cut_ok (by assumption) _ _ | exact rep_ok (by decide) | exact Ok.nil | exact Ok.one (w0_lt (by assumption) _) | exact Ok.one (w0_lt (sealT_ok _) _) | exact Ok.one (by decide) | exact Ok.app (Ok.one (by decide)) (Ok.one (by decide)))
local macro_rules | `(tactic| walk_at "bd") => `(tactic| first | exact bd_add | exact bd_sub | exact bd_mul (by omega) | exact bd_mul (by have := rng_of (by assumption); omega) | exact bd_mod (by omega) | exact bd_pow (by omega) | exact bd_powX (by decide +kernel) | exact bd_mod (by decide +kernel) | exact bd_mulB | exact bd_mod (by have := of_decide_eq_false (by assumption); omega) | exact bd_div (by omega) | exact bd_addC (by walk_at "sz") | exact bd_mulC (by walk_at "sz") | exact bd_mulC ⟨by decide, by decide, by assumption⟩ | exact bd_addS (by walk_at "sz") | exact bd_catL (by walk_at "sz"))
local macro_rules | `(tactic| walk_at "cd") => `(tactic| first | exact cd_lt | exact cd_ltC (by walk_at "lt") (by walk_at "lt") | exact cd_le | exact cd_gt | exact cd_ge | exact cd_eq | exact cd_ne | exact cd_eqC (by walk_at "ok") (by walk_at "ok") | exact cd_neC (by walk_at "ok") (by walk_at "ok") | exact cd_inHex (by walk_at "lt") | exact cd_inS | exact cd_isN | exact cd_notN | exact cd_gtS | exact cd_inT ‹Rm 0 _› (by assumption) sh_et | exact cd_eqS | exact cd_neS)
local macro_rules | `(tactic| walk_at "md") => `(tactic| first | exact md_joinCl (by walk_at "sz") | exact md_hex (by walk_at "lt") | exact md_joinC1 (by walk_at "sz") | exact md_joinCf (f := digs 2) (k := 2) (fun _ _ => by rw [digs_length]; decide) (by walk_at "sz") | exact md_joinS (by walk_at "sz") | exact md_index (low_occ _ (by omega) (by omega) (by omega)) | exact md_index (high_occ _ (by omega) (by omega) (by omega)))
local macro_rules | `(tactic| walk_at "sd") => `(tactic| first | exact sd_hexM | exact sd_hexT (by walk_at "lt") | exact sd_C (by assumption) (by walk_at "sz") | exact sd_C (w0_get (by omega)) (by walk_at "sz") | exact sd_Ci (by have := rng_of (by assumption); omega) (w0_get (by have := rng_of (by assumption); omega)) (by walk_at "sz") | exact sd_Ci (by omega) (w0_get (by omega)) (by walk_at "sz") | exact sd_C (w0_get (Nat.lt_of_lt_of_le ((by assumption : ∀ a, a ∈ _ → a < 256) _ (by assumption)) (Nat.le_of_eq (Eq.symm (by assumption))))) (by walk_at "sz") | exact sd_hexN (by omega) (by omega) | exact sd_ints (l := [2147483647, 2147483629, 2147483587, 2147483579, 2147483563]) (by omega) (by simp only [List.length_cons, List.length_nil]; omega) | exact sd_cl (by omega) (by omega) | exact sd_lst rfl | exact sd_tup rfl | exact sd_low (by omega) | exact sd_high (by omega))
local macro_rules | `(tactic| walk_at "sl") => `(tactic| first | exact sl_C0n (b := 226) (by walk_at "sz") | exact sl_C0n (b := 226) (by walk_at "sz") | exact sl_Cn0 (a := 226) (by walk_at "sz") | exact sl_C (by walk_at "sz") | exact sl_L | exact sl_S (by walk_at "sz"))
local macro_rules | `(tactic| walk_at "rg") => `(tactic| first | exact rg_pairs | omega)
local macro_rules | `(tactic| walk_at "ca") => `(tactic| first | exact ca_minL2 rfl | exact ca_isiStr | exact ca_lenC (by walk_at "sz") | exact ca_allm rfl | exact ca_lenS (by walk_at "sz") | exact ca_lenL | exact ca_lenT | exact ca_tupL | exact ca_ord | exact ca_int | exact ca_intB | exact ca_abs | exact ca_max2 rfl | exact ca_min2 rfl | exact ca_listS rfl (by walk_at "sz"))
local macro_rules | `(tactic| walk_at "call cell_number") => `(tactic| exact .mk (by walk_at "lt"))
local macro_rules | `(tactic| walk_at "call number_in_cells") => `(tactic| exact .mk (by walk_at "ok"))
local macro_rules | `(tactic| walk_at "call cells_of_number") => `(tactic| first | exact .mk (k := 2) (by decide) | exact .mk (by walk_at "sz"))
local macro_rules | `(tactic| walk_at "call contrary") => `(tactic| exact .mk (by walk_at "ok") (by walk_at "sz"))
local macro_rules | `(tactic| walk_at "call sums_of") => `(tactic| exact .mk (by walk_at "ok") (by walk_at "sz"))
local macro_rules | `(tactic| walk_at "call sum_cells") => `(tactic| exact .mk)
local macro_rules | `(tactic| walk_at "call sign_number") => `(tactic| first | exact .mk (by assumption) | exact .mk ((by assumption : OkT _) _ (by assumption)))
local macro_rules | `(tactic| walk_at "call sign_of") => `(tactic| exact .mk (by assumption))
local macro_rules | `(tactic| walk_at "call is_page_text") => `(tactic| exact .mk (by assumption) (by assumption))
local macro_rules | `(tactic| walk_at "call text_cells") => `(tactic| exact .mk (by assumption) (by assumption))
local macro_rules | `(tactic| walk_at "fl") => `(tactic| first | rfl | exact int_ne255 | (have z := (by assumption : ∀ x : Nat × Nat, x ∈ List.zip _ _ → x.1 < 16 ∧ x.2 < 16); have z2 := z _ (by assumption); exact dig_ltS z2.2 z2.1) | simp)
local macro_rules | `(tactic| walk_at "call signs_in") => `(tactic| exact .mk (by walk_at "ok") (by walk_at "sz") (by walk_at "sz"))
local macro_rules | `(tactic| walk_at "call sealed_page") => `(tactic| exact .mk (by assumption) (by assumption))
local macro_rules | `(tactic| walk_at "call told_sums") => `(tactic| exact .mk (by walk_at "ok") (by walk_at "sz"))
local macro_rules | `(tactic| walk_at "call fallen_in_text") => `(tactic| exact .mk (by walk_at "ok") (by walk_at "sz"))
local macro_rules | `(tactic| walk_at "call fallen_in_sums") => `(tactic| exact .mk (by walk_at "ok") (by walk_at "sz"))
local macro_rules | `(tactic| walk_at "call are_cells") => `(tactic| exact .mk (by walk_at "ok") (by walk_at "sz"))
local macro_rules | `(tactic| walk_at "call is_page") => `(tactic| exact .mk (by walk_at "ok") (by walk_at "sz"))
local macro_rules | `(tactic| walk_at "call _law_code_worth") => `(tactic| exact .mk (by walk_at "lt"))
local macro_rules | `(tactic| walk_at "call _law_code_number") => `(tactic| exact .mk (by walk_at "ok"))
local macro_rules | `(tactic| walk_at "call _law_code_figures") => `(tactic| first | exact .mk (k := 2) (by decide) | exact .mk (by walk_at "sz"))
local macro_rules | `(tactic| walk_at "call _law_code_turned") => `(tactic| exact .mk (by walk_at "ok") (by walk_at "sz"))
local macro_rules | `(tactic| walk_at "call _law_code_sums") => `(tactic| exact .mk (by walk_at "ok") (by walk_at "sz"))
local macro_rules | `(tactic| walk_at "call _law_code_tail") => `(tactic| exact .mk (by walk_at "ok") (by walk_at "sz"))
local macro_rules | `(tactic| walk_at "call _law_code_signs") => `(tactic| exact .mk)
local macro_rules | `(tactic| walk_at "call _law_code_unlike") => `(tactic| exact .mk (by walk_at "ok") (by walk_at "sz") (by walk_at "ok") (by walk_at "sz"))
local macro_rules | `(tactic| walk_at "call _law_code_fallen") => `(tactic| exact .mk (by walk_at "ok") (by walk_at "sz") (by walk_at "ok") (by walk_at "sz"))
local macro_rules | `(tactic| walk_at "call _law_code_sealed") => `(tactic| exact .mk (by assumption) (by assumption))
local macro_rules | `(tactic| walk_at "call _law_code_text") => `(tactic| exact .mk (by walk_at "ok") (by walk_at "sz"))
local macro_rules | `(tactic| walk_at "call _law_code_told") => `(tactic| exact .mk (by walk_at "ok") (by walk_at "sz"))
local macro_rules | `(tactic| walk_at "call _law_code_lifted") => `(tactic| exact .mk (by walk_at "ok") (by walk_at "sz"))
local macro_rules | `(tactic| walk_at "call _law_code_opened") => `(tactic| exact .mk (by walk_at "ok") (by walk_at "sz"))
local macro_rules | `(tactic| walk_at "rep") => `(tactic| assumption)
local macro_rules | `(tactic| walk_at "call sums") => `(tactic| exact .mk (by walk_at "ok") (by walk_at "sz"))
local macro_rules | `(tactic| walk_at "call opened") => `(tactic| exact .mk (by walk_at "ok") (by walk_at "sz"))
local macro_rules | `(tactic| walk_at "call _law_cells") => `(tactic| exact .mk)
local macro_rules | `(tactic| walk_at "call is_page_text") => `(tactic| exact .mk (by assumption) (by assumption))
local macro_rules | `(tactic| walk_at "call sealed") => `(tactic| exact .mk (by assumption) (by assumption))
local macro_rules | `(tactic| walk_at "asc") => `(tactic| exact asc_C (by walk_at "ok"))
local macro_rules | `(tactic| walk_at "zl") => `(tactic| (rw [List.length_map, List.length_map]; omega))
local macro_rules | `(tactic| walk_at "call _law_many_greater") => `(tactic| exact .mk (by walk_at "ok") (by walk_at "sz") (by walk_at "ok") (by walk_at "sz"))
local macro_rules | `(tactic| walk_at "call _law_is_told") => `(tactic| exact .mk (by assumption) (by assumption) (by assumption) (by assumption) (by assumption))

inductive F__law_evened : FT
  | mk {p : Addr} {a b c : Int} {ws : List Nat} {m : MS} {P : SD → MS → Prop} (ha : 0 ≤ a) (hb : PB b) (hc : 0 ≤ c ∧ c ≤ 80000) (hpf : p ∉ ad m) (ho : Ok ws) (hl : ws.length = 256)
      (h : ∀ (us : List Nat) (a' c' : Int), Ok us → us.length = 256 → Low1 us ws → 0 ≤ a' → (0 ≤ c' ∧ c' ≤ c + 10) → P (C us) (Pt p a' b c' :: m)) : F__law_evened [.raw (.ref p), C ws] (Pt p a b c :: m) P
/-- a cell moved by some -/
def mv (ws : List Nat) (pl mo : Int) : List Nat := ws.set pl.toNat ((w0 ws pl.toNat : Int) + mo).toNat
theorem mv_len (ws : List Nat) (pl mo : Int) : (mv ws pl mo).length = ws.length := by unfold mv; rw [List.length_set]
theorem mv_ok {ws : List Nat} {pl mo : Int} (ho : Ok ws) (h : (w0 ws pl.toNat : Int) + mo < 16) : Ok (mv ws pl mo) := fun x hx => by
  rcases List.mem_or_eq_of_mem_set hx with z | z
  · exact ho x z
  · omega
theorem mv_ne {ws : List Nat} {pl mo : Int} {q : Nat} (h : pl.toNat ≠ q) : w0 (mv ws pl mo) q = w0 ws q := w0_set_ne h
theorem mv_up {ws us : List Nat} {pl mo : Int} (hl : pl.toNat < us.length) (h : Up ws us) (hm : 0 ≤ mo) (he : w0 us pl.toNat = w0 ws pl.toNat) : Up ws (mv us pl mo) := Up.set hl h (by omega)
section
variable {P : Program} {w : World} {K : PySem.W.Frag} {mg : Str → Option Value} {base : Heap}
theorem ok__law_evened (T : Tx K mg) : FnG P w K mg base CX0 2 T.a__law_evened T.d__law_evened ["pot", "page"] (SpD K F__law_evened) := by
  refine fnD_ok T.F__law_evened sc__law_evened (fun xs m Pp h => by cases h; rfl) (fun cdv A outer s H E rm xs m Pp hF => ?_)
  cases hF with | @mk p a b c ws m Pp ha hb hc hpf ho hl h =>
  refine wss_cons (ws_par (i := 2) (j := 3) sc__law_evened.nd (wa_cons (we_bin (EE.to ee_int (wg_call (ok__law_take T) (rm.mono (by decide)) T.m__law_take T.F__law_take.kp T.b__law_take (EA.to (ea_cons (ee_var (i := 0) rfl) (ea_cons ee_int ea_nil)) ⟨[], _, rfl, .mk ha hb ⟨hc.1, by omega⟩ (by decide) hpf fun d1 a1 c1 h1 h2 h3 => ⟨_, bd_add, wa_cons (we_bin (EE.to ee_int (wg_call (ok__law_take T) (rm.mono (by decide)) T.m__law_take T.F__law_take.kp T.b__law_take (EA.to (ea_cons (ee_var (i := 0) rfl) (ea_cons ee_int ea_nil)) ⟨[], _, rfl, .mk h2 hb ⟨h3.1, by omega⟩ (by decide) hpf fun d2 a2 c2 h4 h5 h6 => ⟨_, bd_add, wa_nil ⟨_, _, rfl, ?_⟩⟩⟩))))⟩⟩))))))
  have back : Pp (C ws) (Pt p a2 b c2 :: m) := h ws a2 c2 ho hl (Low1.refl ws) h5 ⟨h6.1, by omega⟩
  by_cases hge : 1 + d2 ≤ 1 + d1
  · refine wss_cons (ws_setE (i := 4) sc__law_evened.nd (d := Ls [.int (15 - (w0 ws (1 + d1 - (1 + d2)).toNat : Int)), .int (15 - (w0 ws (min 225 (1 + d1 + (1 + d2))).toNat : Int))]) (ee_lst (eap_cons (ee_if (k := true) (ET.is (et_cmp (ee_var (i := 2) rfl) (ee_var (i := 3) rfl) (by walk_at "cd")) (decide_eq_true hge)) (fun _ => (ee_bin ee_int (eg_call (ok__law_code_worth T) (rm.mono (by decide)) T.m__law_code_worth T.F__law_code_worth.kp T.b__law_code_worth (ea_cons (ee_sub (ee_var (i := 1) rfl) (ee_bin (ee_var (i := 2) rfl) (ee_var (i := 3) rfl) (by walk_at "bd")) (fun m => by walk_at "sd")) ea_nil) (by walk_at "call _law_code_worth")) (by walk_at "bd"))) (fun z => by cases z)) (eap_cons (ee_bin ee_int (eg_call (ok__law_code_worth T) (rm.mono (by decide)) T.m__law_code_worth T.F__law_code_worth.kp T.b__law_code_worth (ea_cons (ee_sub (ee_var (i := 1) rfl) (EE.is (ee_callB (ea_cons ee_int (ea_cons (ee_bin (ee_var (i := 2) rfl) (ee_var (i := 3) rfl) (by walk_at "bd")) ea_nil)) (fun m => by walk_at "ca") T.m_min bo_min) (I_eq (b := min 225 (1 + d1 + (1 + d2))) (by split <;> omega))) (fun m => sd_Ci (by omega) (w0_get (by omega)) (by omega))) ea_nil) (.mk (w0_lt ho _))) bd_sub) eap_nil))) ?_)
    have hw16 := w0_lt ho (1 + d1).toNat
    refine wss_cons (ws_ife (et_w (ew_or (et_cmp (ee_callB (ea_cons (ee_var (i := 4) rfl) ea_nil) (fun m => by walk_at "ca") T.m_min bo_min) ee_int (by walk_at "cd")) (fun hk => (ew_or (et_cmp (eg_call (ok__law_code_worth T) (rm.mono (by decide)) T.m__law_code_worth T.F__law_code_worth.kp T.b__law_code_worth (ea_cons (ee_sub (ee_var (i := 1) rfl) (ee_var (i := 2) rfl) (fun m => by walk_at "sd")) ea_nil) (by walk_at "call _law_code_worth")) ee_int (by walk_at "cd")) (fun hk => (ew_or1 (et_cmp (ee_bin (ee_var (i := 2) rfl) (ee_var (i := 3) rfl) (by walk_at "bd")) ee_int (by walk_at "cd")))))))) (fun _ => wss_one (ws_retE (ee_var (i := 1) rfl) back)) fun hz => wss_nil ?_)
    rw [Bool.or_eq_false_iff, Bool.or_eq_false_iff, decide_eq_false_iff_not, decide_eq_false_iff_not, decide_eq_false_iff_not] at hz
    obtain ⟨z1, z2, z3⟩ := hz
    have hmin : min 225 (1 + d1 + (1 + d2)) = 1 + d1 + (1 + d2) := by omega
    rw [hmin] at z1
    have x1 : (w0 ws (1 + d1 - (1 + d2)).toNat : Int) + 1 < 16 := by
      split at z1 <;> omega
    have x2 : (w0 ws (1 + d1 + (1 + d2)).toNat : Int) + 1 < 16 := by
      split at z1 <;> omega
    refine wss_cons (ws_set (i := 5) sc__law_evened.nd (we_listSO (ee_var (i := 1) rfl) (by rw [C_len]; omega) (fun q hq => ?_) T.m_list bo_list))
    have hq' : q ∉ ad (Pt p a2 b c2 :: m) := hq
    let u1 := mv ws (1 + d1 - (1 + d2)) 1
    let u2 := mv u1 (1 + d1 + (1 + d2)) 1
    let u3 := mv u2 (1 + d1) (-2)
    have e1 : w0 u1 (1 + d1 + (1 + d2)).toNat = w0 ws (1 + d1 + (1 + d2)).toNat := mv_ne (by omega)
    have e2 : w0 u2 (1 + d1).toNat = w0 ws (1 + d1).toNat := (mv_ne (by omega)).trans (mv_ne (by omega))
    have l1 : u1.length = 256 := (mv_len _ _ _).trans hl
    have l2 : u2.length = 256 := (mv_len _ _ _).trans l1
    have l3 : u3.length = 256 := (mv_len _ _ _).trans l2
    have o1 : Ok u1 := mv_ok ho x1
    have o2 : Ok u2 := mv_ok o1 (by rw [e1]; exact x2)
    have o3 : Ok u3 := mv_ok o2 (by rw [e2]; omega)
    have up1 : Up ws u1 := mv_up (by omega) (Up.refl ws) (by decide) rfl
    have up2 : Up ws u2 := mv_up (by omega) up1 (by decide) e1
    have low : Low1 u3 ws := Low1.set up2
    refine wss_cons (ws_for (js := [6, 7]) (((ei_tup (ee_tup (eap_cons (ee_tup (eap_cons (ee_bin (ee_var (i := 2) rfl) (ee_var (i := 3) rfl) (by walk_at "bd")) (eap_cons ee_int eap_nil))) (eap_cons (ee_tup (eap_cons (ee_bin (ee_var (i := 2) rfl) (ee_var (i := 3) rfl) (by walk_at "bd")) (eap_cons ee_int eap_nil))) (eap_cons (ee_tup (eap_cons (ee_var (i := 2) rfl) (eap_cons (ee_neg ee_int) eap_nil))) eap_nil)))))).to ⟨fun i ds' m' => ∃ y6 y7 r4, ds' = [some (.raw (.ref p)), some (C ws), some (I (1 + d1)), some (I (1 + d2)), r4, some (.raw (.ref q)), y6, y7] ∧ m' = (q, .dl (cl ([ws, u1, u2, u3].getD i []))) :: Pt p a2 b c2 :: m, ⟨none, none, _, rfl, rfl⟩, ?_, ?_⟩))
    · rintro i x ds' m' hx ⟨y6, y7, r4, rfl, rfl⟩
      have hi := get_lt hx
      have hi3 : i < 3 := hi
      have step : ∀ (us : List Nat) (pl mo : Int), us.length = 256 → Ok us → (0 ≤ pl ∧ pl < 256) → (0 ≤ (w0 us pl.toNat : Int) + mo ∧ (w0 us pl.toNat : Int) + mo < 16) → x = Tp [.int pl, .int mo] → [ws, u1, u2, u3].getD i [] = us → [ws, u1, u2, u3].getD (i + 1) [] = mv us pl mo → True := fun _ _ _ _ _ _ _ _ _ _ => trivial
      obtain ⟨us, pl, mo, k1, k2, k3, k4, rfl, k5, k6⟩ : ∃ (us : List Nat) (pl mo : Int), us.length = 256 ∧ Ok us ∧ (0 ≤ pl ∧ pl < 256) ∧ (0 ≤ (w0 us pl.toNat : Int) + mo ∧ (w0 us pl.toNat : Int) + mo < 16) ∧ x = Tp [.int pl, .int mo] ∧ [ws, u1, u2, u3].getD i [] = us ∧ [ws, u1, u2, u3].getD (i + 1) [] = mv us pl mo := by
        match i, hi3, hx with
        | 0, _, hx => cases hx; exact ⟨ws, _, _, hl, ho, by omega, by omega, rfl, rfl, rfl⟩
        | 1, _, hx => cases hx; exact ⟨u1, _, _, l1, o1, by omega, by rw [e1]; omega, rfl, rfl, rfl⟩
        | 2, _, hx => cases hx; exact ⟨u2, _, _, l2, o2, by omega, by rw [e2]; omega, rfl, rfl, rfl⟩
      rw [k5]
      have hw := w0_lt k2 pl.toNat
      refine wg_tup (wgs_cons (wg_name (wgs_cons (wg_name (wgs_nil ?_) sc__law_evened.nd)) sc__law_evened.nd))
      refine wss_one (ws_storeV (i := 5) (p := q) (l := cl us) (j := pl) (d := .str ⟨([((w0 us pl.toNat : Int) + mo).toNat].map dig).toArray⟩) hq' rfl (ee_var (i := 5) rfl) (ee_var (i := 6) rfl) (ee_sub (ee_strS (l := [48, 49, 50, 51, 52, 53, 54, 55, 56, 57, 97, 98, 99, 100, 101, 102])) (ee_bin (eg_call (ok__law_code_worth T) (rm.mono (by decide)) T.m__law_code_worth T.F__law_code_worth.kp T.b__law_code_worth (ea_cons (ee_sub (ee_var (i := 5) rfl) (ee_var (i := 6) rfl) (fun m => by walk_at "sd")) ea_nil) (by walk_at "call _law_code_worth")) (ee_var (i := 7) rfl) (by walk_at "bd")) (fun m => by walk_at "sd")) sc_str k3.1 (by rw [cl_len]; omega) ⟨_, _, _, rfl, ?_⟩)
      rw [cl_set, k6]
      rfl
    · rintro ds' m' ⟨y6, y7, r4, rfl, rfl⟩
      refine wss_seal (i := 5) rfl (wss_one (ws_retE (d := C u3) (ee_meth PySem.F.plainAttrs_str PySem.F.slot_str_join PySem.F.type_str_join (EE.is (ee_strS (l := [])) (show S [] = C [] from rfl)) (ea_cons (ee_var (i := 5) rfl) ea_nil) (fun m => md_joinCl (us := u3) (by omega))) (h u3 a2 c2 o3 l3 low h5 ⟨h6.1, by omega⟩)))
  · refine wss_cons (ws_setE (i := 4) sc__law_evened.nd (d := Ls [.int 0, .int (15 - (w0 ws (min 225 (1 + d1 + (1 + d2))).toNat : Int))]) (ee_lst (eap_cons (ee_if (k := false) (ET.is (et_cmp (ee_var (i := 2) rfl) (ee_var (i := 3) rfl) (by walk_at "cd")) (decide_eq_false hge)) (fun z => by cases z) (fun _ => ee_int)) (eap_cons (ee_bin ee_int (eg_call (ok__law_code_worth T) (rm.mono (by decide)) T.m__law_code_worth T.F__law_code_worth.kp T.b__law_code_worth (ea_cons (ee_sub (ee_var (i := 1) rfl) (EE.is (ee_callB (ea_cons ee_int (ea_cons (ee_bin (ee_var (i := 2) rfl) (ee_var (i := 3) rfl) (by walk_at "bd")) ea_nil)) (fun m => by walk_at "ca") T.m_min bo_min) (I_eq (b := min 225 (1 + d1 + (1 + d2))) (by split <;> omega))) (fun m => sd_Ci (by omega) (w0_get (by omega)) (by omega))) ea_nil) (.mk (w0_lt ho _))) bd_sub) eap_nil))) ?_)
    have hlt : (if (15 - (w0 ws (min 225 (1 + d1 + (1 + d2))).toNat : Int)) < 0 then (15 - (w0 ws (min 225 (1 + d1 + (1 + d2))).toNat : Int)) else 0) < 1 := by
      split <;> omega
    exact wss_cons (ws_ife (k := true) (ET.is (et_w (ew_or (l := true) (et_cmp (ee_callB (ea_cons (ee_var (i := 4) rfl) ea_nil) (fun m => by walk_at "ca") T.m_min bo_min) ee_int (by walk_at "cd")) (fun hk => absurd (of_decide_eq_false hk) (fun z => z hlt)))) (by rw [Bool.or_true])) (fun _ => wss_one (ws_retE (ee_var (i := 1) rfl) back)) fun z => by cases z)
end
end K08
end W9
namespace W9
namespace K08
open PySem PySem.Spec PyProof.Rows L2
theorem wss_mid {X : Cx} {ds : DE} {m : MS} {st : Stmt} {sts : List Stmt} {E : ED} (Mid : DE → MS → Prop) (h : WS X st ds m { E with nx := Mid }) (k : ∀ ds' m', Mid ds' m' → WSs X sts ds' m' E) : WSs X (st :: sts) ds m E :=
  wss_cons fun σ G H e0 w D q => h σ G H e0 w D ⟨fun _ _ _ _ _ g e p => q.nx _ _ _ _ _ g e (k _ _ p), q.rt, q.bk, q.ct⟩
local macro_rules | `(tactic| walk_at "lt") => `(tactic| first | assumption | exact w0_lt (by assumption) _ | exact w0_lt (sealT_ok _) _ | omega | exact Ok.get (by assumption) (by assumption) | exact (by assumption : Ok _) _ (by assumption))
local macro_rules | `(tactic| walk_at "sz") => `(tactic| first | assumption | omega | decide | (simp only [List.length_append, List.length_map]; omega) | (simp only [List.length_append, List.length_take, List.length_drop, List.length_map, List.length_replicate, List.length_range, List.length_reverse, List.length_cons, List.length_nil, digs_length, tw_length, enc_length, rep_length, tailOf_length]; omega))
local macro_rules | `(tactic| walk_at "ok") => `(tactic| first | assumption | exact Ok.tk _ (by assumption) | exact Ok.dp _ (by assumption) | exact Ok.tk _ (Ok.dp _ (by assumption)) | exact digs_ok _ _ | exact cmpl_ok | exact cellsOf_ok _ | exact sealT_ok _ | exact cut_ok (by assumption) _ _ | exact rep_ok (by decide) | exact Ok.nil | exact Ok.one (w0_lt (by assumption) _) | exact Ok.one (w0_lt (sealT_ok _) _) | exact Ok.one (by decide) | exact Ok.app (Ok.one (by decide)) (Ok.one (by decide)))
local macro_rules | `(tactic| walk_at "bd") => `(tactic| first | exact bd_add | exact bd_sub | exact bd_mul (by omega) | exact bd_mul (by have := rng_of (by assumption); omega) | exact bd_mod (by omega) | exact bd_pow (by omega) | exact bd_powX (by decide +kernel) | exact bd_mod (by decide +kernel) | exact bd_mulB | exact bd_mod (by have := of_decide_eq_false (by assumption); omega) | exact bd_div (by omega) | exact bd_addC (by walk_at "sz") | exact bd_mulC (by walk_at "sz") | exact bd_mulC ⟨by decide, by decide, by assumption⟩ | exact bd_addS (by walk_at "sz") | exact bd_catL (by walk_at "sz"))
local macro_rules | `(tactic| walk_at "cd") => `(tactic| first | exact cd_lt | exact cd_ltC (by walk_at "lt") (by walk_at "lt") | exact cd_le | exact cd_gt | exact cd_ge | exact cd_eq | exact cd_ne | exact cd_eqC (by walk_at "ok") (by walk_at "ok") | exact cd_neC (by walk_at "ok") (by walk_at "ok") | exact cd_inHex (by walk_at "lt") | exact cd_inS | exact cd_isN | exact cd_notN | exact cd_gtS | exact cd_inT ‹Rm 0 _› (by assumption) sh_et | exact cd_eqS | exact cd_neS)
local macro_rules | `(tactic| walk_at "md") => `(tactic| first | exact md_joinCl (by walk_at "sz") | exact md_hex (by walk_at "lt") | exact md_joinC1 (by walk_at "sz") | exact md_joinCf (f := digs 2) (k := 2) (fun _ _ => by rw [digs_length]; decide) (by walk_at "sz") | exact md_joinS (by walk_at "sz") | exact md_index (low_occ _ (by omega) (by omega) (by omega)) | exact md_index (high_occ _ (by omega) (by omega) (by omega)))
local macro_rules | `(tactic| walk_at "sd") => `(tactic| first | exact sd_hexM | exact sd_hexT (by walk_at "lt") | exact sd_C (by assumption) (by walk_at "sz") | exact sd_C (w0_get (by omega)) (by walk_at "sz") | exact sd_Ci (by have := rng_of (by assumption); omega) (w0_get (by have := rng_of (by assumption); omega)) (by walk_at "sz") | exact sd_Ci (by omega) (w0_get (by omega)) (by walk_at "sz") | exact sd_C (w0_get (Nat.lt_of_lt_of_le ((by assumption : ∀ a, a ∈ _ → a < 256) _ (by assumption)) (Nat.le_of_eq (Eq.symm (by assumption))))) (by walk_at "sz") | exact sd_hexN (by omega) (by omega) | exact sd_ints (l := [2147483647, 2147483629, 2147483587, 2147483579, 2147483563]) (by omega) (by simp only [List.length_cons, List.length_nil]; omega) | exact sd_cl (by omega) (by omega) | exact sd_lst rfl | exact sd_tup rfl | exact sd_low (by omega) | exact sd_high (by omega))
local macro_rules | `(tactic| walk_at "sl") => `(tactic| first | exact sl_C0n (b := 226) (by walk_at "sz") | exact sl_C0n (b := 226) (by walk_at "sz") | exact sl_Cn0 (a := 226) (by walk_at "sz") | exact sl_C (by walk_at "sz") | exact sl_L | exact sl_S (by walk_at "sz"))
local macro_rules | `(tactic| walk_at "rg") => `(tactic| first | exact rg_pairs | omega)
local macro_rules | `(tactic| walk_at "ca") => `(tactic| first | exact ca_minL2 rfl | exact ca_isiStr | exact ca_lenC (by walk_at "sz") | exact ca_allm rfl | exact ca_lenS (by walk_at "sz") | exact ca_lenL | exact ca_lenT | exact ca_tupL | exact ca_ord | exact ca_int | exact ca_intB | exact ca_abs | exact ca_max2 rfl | exact ca_min2 rfl | exact ca_listS rfl (by walk_at "sz"))
local macro_rules | `(tactic| walk_at "call cell_number") => `(tactic| exact .mk (by walk_at "lt"))
local macro_rules | `(tactic| walk_at "call number_in_cells") => `(tactic| exact .mk (by walk_at "ok"))
local macro_rules | `(tactic| walk_at "call cells_of_number") => `(tactic| first | exact .mk (k := 2) (by decide) | exact .mk (by walk_at "sz"))
local macro_rules | `(tactic| walk_at "call contrary") => `(tactic| exact .mk (by walk_at "ok") (by walk_at "sz"))
local macro_rules | `(tactic| walk_at "call sums_of") => `(tactic| exact .mk (by walk_at "ok") (by walk_at "sz"))
local macro_rules | `(tactic| walk_at "call sum_cells") => `(tactic| exact .mk)
local macro_rules | `(tactic| walk_at "call sign_number") => `(tactic| first | exact .mk (by assumption) | exact .mk ((by assumption : OkT _) _ (by assumption)))
local macro_rules | `(tactic| walk_at "call sign_of") => `(tactic| exact .mk (by assumption))
local macro_rules | `(tactic| walk_at "call is_page_text") => `(tactic| exact .mk (by assumption) (by assumption))
local macro_rules | `(tactic| walk_at "call text_cells") => `(tactic| exact .mk (by assumption) (by assumption))
local macro_rules | `(tactic| walk_at "fl") => `(tactic| first | rfl | exact int_ne255 | (have z := (by assumption : ∀ x : Nat × Nat, x ∈ List.zip _ _ → x.1 < 16 ∧ x.2 < 16); have z2 := z _ (by assumption); exact dig_ltS z2.2 z2.1) | simp)
local macro_rules | `(tactic| walk_at "call signs_in") => `(tactic| exact .mk (by walk_at "ok") (by walk_at "sz") (by walk_at "sz"))
local macro_rules | `(tactic| walk_at "call sealed_page") => `(tactic| exact .mk (by assumption) (by assumption))
local macro_rules | `(tactic| walk_at "call told_sums") => `(tactic| exact .mk (by walk_at "ok") (by walk_at "sz"))
local macro_rules | `(tactic| walk_at "call fallen_in_text") => `(tactic| exact .mk (by walk_at "ok") (by walk_at "sz"))
local macro_rules | `(tactic| walk_at "call fallen_in_sums") => `(tactic| exact .mk (by walk_at "ok") (by walk_at "sz"))
local macro_rules | `(tactic| walk_at "call are_cells") => `(tactic| exact .mk (by walk_at "ok") (by walk_at "sz"))
local macro_rules | `(tactic| walk_at "call is_page") => `(tactic| exact .mk (by walk_at "ok") (by walk_at "sz"))
local macro_rules | `(tactic| walk_at "call _law_code_worth") => `(tactic| exact .mk (by walk_at "lt"))
local macro_rules | `(tactic| walk_at "call _law_code_number") => `(tactic| exact .mk (by walk_at "ok"))
local macro_rules | `(tactic| walk_at "call _law_code_figures") => `(tactic| first | exact .mk (k := 2) (by decide) | exact .mk (by walk_at "sz"))
local macro_rules | `(tactic| walk_at "call _law_code_turned") => `(tactic| exact .mk (by walk_at "ok") (by walk_at "sz"))
local macro_rules | `(tactic| walk_at "call _law_code_sums") => `(tactic| exact .mk (by walk_at "ok") (by walk_at "sz"))
local macro_rules | `(tactic| walk_at "call _law_code_tail") => `(tactic| exact .mk (by walk_at "ok") (by walk_at "sz"))
local macro_rules | `(tactic| walk_at "call _law_code_signs") => `(tactic| exact .mk)
local macro_rules | `(tactic| walk_at "call _law_code_unlike") => `(tactic| exact .mk (by walk_at "ok") (by walk_at "sz") (by walk_at "ok") (by walk_at "sz"))
local macro_rules | `(tactic| walk_at "call _law_code_fallen") => `(tactic| exact .mk (by walk_at "ok") (by walk_at "sz") (by walk_at "ok") (by walk_at "sz"))
local macro_rules | `(tactic| walk_at "call _law_code_sealed") => `(tactic| exact .mk (by assumption) (by assumption))
local macro_rules | `(tactic| walk_at "call _law_code_text") => `(tactic| exact .mk (by walk_at "ok") (by walk_at "sz"))
local macro_rules | `(tactic| walk_at "call _law_code_told") => `(tactic| exact .mk (by walk_at "ok") (by walk_at "sz"))
local macro_rules | `(tactic| walk_at "call _law_code_lifted") => `(tactic| exact .mk (by walk_at "ok") (by walk_at "sz"))
local macro_rules | `(tactic| walk_at "call _law_code_opened") => `(tactic| exact .mk (by walk_at "ok") (by walk_at "sz"))
local macro_rules | `(tactic| walk_at "rep") => `(tactic| assumption)
local macro_rules | `(tactic| walk_at "call sums") => `(tactic| exact .mk (by walk_at "ok") (by walk_at "sz"))
local macro_rules | `(tactic| walk_at "call opened") => `(tactic| exact .mk (by walk_at "ok") (by walk_at "sz"))
local macro_rules | `(tactic| walk_at "call _law_cells") => `(tactic| exact .mk)
local macro_rules | `(tactic| walk_at "call is_page_text") => `(tactic| exact .mk (by assumption) (by assumption))
local macro_rules | `(tactic| walk_at "call sealed") => `(tactic| exact .mk (by assumption) (by assumption))
local macro_rules | `(tactic| walk_at "asc") => `(tactic| exact asc_C (by walk_at "ok"))
local macro_rules | `(tactic| walk_at "zl") => `(tactic| (rw [List.length_map, List.length_map]; omega))
local macro_rules | `(tactic| walk_at "call _law_many_greater") => `(tactic| exact .mk (by walk_at "ok") (by walk_at "sz") (by walk_at "ok") (by walk_at "sz"))
local macro_rules | `(tactic| walk_at "call _law_is_told") => `(tactic| exact .mk (by assumption) (by assumption) (by assumption) (by assumption) (by assumption))

inductive F__law_right : FT
  | mk {p : Addr} {a b : Int} {m : MS} {P : SD → MS → Prop} (ha : 0 ≤ a) (hb : PB b) (hpf : p ∉ ad m) (h : ∀ (a' c' : Int), P (B true) (Pt p a' b c' :: m)) : F__law_right [.raw (.ref p)] (Pt p a b 0 :: m) P
def cellsN (n : Nat) : Int := if (if (n : Int) < 2 then (n : Int) else 2) > 1 then (if (n : Int) < 2 then (n : Int) else 2) else 1
theorem cellsN_le (n : Nat) : 0 ≤ cellsN n ∧ cellsN n ≤ 2 := by
  unfold cellsN
  split <;> split <;> omega
inductive R__law_cells : List SD → SD → Prop
  | mk {ns : List Int} : R__law_cells [Ls (ns.map .int), I 2] (Ls ((List.range (cellsN ns.length).toNat).map fun (i : Nat) => PyData.int (i : Int)))
inductive F_law : FT
  | mk {ns : List Int} {m : MS} {P : SD → MS → Prop} (hl : ns.length ≤ 63) (h : P (B true) m) : F_law [Ls (ns.map .int)] m P
def lowL (pg : List Nat) (l : List PyData) : Prop := ∀ d ∈ l, ∃ ws : List Nat, Ok ws ∧ ws.length = 256 ∧ Low1 ws pg ∧ d = .str ⟨(ws.map dig).toArray⟩
theorem lowL.snoc {pg : List Nat} {l : List PyData} {ws : List Nat} (h : lowL pg l) (ho : Ok ws) (hl : ws.length = 256) (h1 : Low1 ws pg) : lowL pg (l ++ [.str ⟨(ws.map dig).toArray⟩]) := fun d hd => by
  rcases List.mem_append.mp hd with z | z
  · exact h d z
  · rw [List.mem_singleton] at z
    exact ⟨ws, ho, hl, h1, z⟩
theorem fall_low {pg r f : List Nat} {d : PyData} (h : Up pg r) (hf : (f = r ∧ d = .none) ∨ ∃ at_ v : Nat, at_ < 256 ∧ f = r.set at_ v ∧ d = .int at_) : Low1 f pg := by
  rcases hf with ⟨rfl, _⟩ | ⟨at_, v, _, rfl, _⟩
  · exact h.low (Low1.refl pg)
  · exact Low1.set h
section
variable {P : Program} {w : World} {K : PySem.W.Frag} {mg : Str → Option Value} {base : Heap}
theorem ok__law_right (T : Tx K mg) : FnG P w K mg base CX0 8 T.a__law_right T.d__law_right ["pot"] (SpD K F__law_right) := by
  refine fnD_ok T.F__law_right sc__law_right (fun xs m Pp h => by cases h; rfl) (fun cdv A outer s H E rm xs m Pp hF => ?_)
  cases hF with | @mk p a b m Pp ha hb hpf h =>
  refine wss_cons (ws_for (js := [1]) (((ei_range1 ee_int (by walk_at "rg") T.m_range)).to ⟨fun i ds' m' => ∃ (y1 y2 y3 y4 y5 y6 y7 y8 y9 y10 : Option SD) (a' c' : Int), 0 ≤ a' ∧ (0 ≤ c' ∧ c' ≤ 1000 * i) ∧ ds' = [some (.raw (.ref p)), y1, y2, y3, y4, y5, y6, y7, y8, y9, y10] ∧ m' = Pt p a' b c' :: m, ⟨none, none, none, none, none, none, none, none, none, none, a, 0, ha, by omega, rfl, rfl⟩, ?_, ?_⟩))
  · rintro i x ds' m' hx ⟨y1, y2, y3, y4, y5, y6, y7, y8, y9, y10, a1, c1, ha1, hc1, rfl, rfl⟩
    have hi := get_lt hx
    rw [List.length_map, List.length_range] at hi
    have hi2 : i < 3 := hi
    refine wg_name ?_ sc__law_right.nd
    refine wss_cons (ws_set (i := 2) sc__law_right.nd (wg_call (ok__law_text_drawn T) (rm.mono (by decide)) T.m__law_text_drawn T.F__law_text_drawn.kp T.b__law_text_drawn (EA.to (ea_cons (ee_var (i := 0) rfl) ea_nil) ⟨[], _, rfl, .mk ha1 hb ⟨hc1.1, by omega⟩ hpf fun t a2 c2 ht htl h2 h3 => ?_⟩)))
    have hsl := sealT_length htl
    have hso := sealT_ok t
    refine wss_cons (ws_setE (i := 3) sc__law_right.nd (eg_call (ok__law_code_sealed T) (rm.mono (by decide)) T.m__law_code_sealed T.F__law_code_sealed.kp T.b__law_code_sealed (ea_cons (ee_var (i := 2) rfl) ea_nil) (by walk_at "call _law_code_sealed")) ?_)
    refine wss_cons (ws_set (i := 4) sc__law_right.nd (we_lstN (wa_cons (wg_call (ok__law_evened T) (rm.mono (by decide)) T.m__law_evened T.F__law_evened.kp T.b__law_evened (EA.to (ea_cons (ee_var (i := 0) rfl) (ea_cons (ee_var (i := 3) rfl) ea_nil)) ⟨[], _, rfl, .mk h2 hb ⟨h3.1, by omega⟩ hpf hso hsl fun e1 a3 c3 k1 k2 k3 k4 k5 => wa_cons (we_sub (wg_call (ok__law_fallen T) (rm.mono (by decide)) T.m__law_fallen T.F__law_fallen.kp T.b__law_fallen (wa_cons (EE.to (ee_var (i := 0) rfl) (wa_cons (wg_call (ok__law_raised T) (rm.mono (by decide)) T.m__law_raised T.F__law_raised.kp T.b__law_raised (EA.to (ea_cons (ee_var (i := 0) rfl) (ea_cons (ee_var (i := 3) rfl) ea_nil)) ⟨[], _, rfl, .mk k4 hb ⟨k5.1, by omega⟩ hpf hso hsl fun r1 a4 c4 k6 k7 k8 k9 k10 => wa_nil ⟨[], _, rfl, .mk k9 hb ⟨k10.1, by omega⟩ hpf k6 k7 fun f1 d1 a5 c5 j1 j2 j3 j4 j5 => EE.to ee_int ⟨_, sd_tup rfl, wa_nil ⟨[.str ⟨(e1.map dig).toArray⟩, .str ⟨(f1.map dig).toArray⟩], rfl, by simp, fun q hq => ?_⟩⟩⟩⟩)))))))⟩)))))
    have hq1 : ∀ a c, q ∉ ad (Pt p a b c :: m) := fun _ _ => hq
    have low0 : lowL (sealT t) [.str ⟨(e1.map dig).toArray⟩, .str ⟨(f1.map dig).toArray⟩] := fun d hd => by
      simp only [List.mem_cons, List.not_mem_nil, or_false] at hd
      rcases hd with e | e
      · exact ⟨e1, k1, k2, k3, e⟩
      · exact ⟨f1, j1, j2, fall_low k8 j3, e⟩
    refine wss_cons (ws_app (ee_var (i := 4) rfl) ⟨_, List.mem_cons_self⟩ (wg_call (ok__law_raised T) (rm.mono (by decide)) T.m__law_raised T.F__law_raised.kp T.b__law_raised (wa_cons (EE.to (ee_var (i := 0) rfl) (wa_cons (we_sub (wg_call (ok__law_fallen T) (rm.mono (by decide)) T.m__law_fallen T.F__law_fallen.kp T.b__law_fallen (EA.to (ea_cons (ee_var (i := 0) rfl) (ea_cons (ee_var (i := 3) rfl) ea_nil)) ⟨[(q, _)], _, rfl, .mk j4 hb ⟨j5.1, by omega⟩ hpf hso hsl fun f2 d2 a6 c6 i1 i2 i3 i4 i5 => EE.to ee_int ⟨_, sd_tup rfl, wa_nil ⟨[(q, _)], _, rfl, .mk i4 hb ⟨i5.1, by omega⟩ hpf i1 i2 fun r2 a7 c7 i6 i7 i8 i9 i10 => ⟨_, _, rfl, List.mem_cons_self, by simp, ?_⟩⟩⟩⟩))))))))
    rw [List.singleton_append, mset_head (hq1 _ _)]
    have low1 := low0.snoc i6 i7 (i8.low (fall_low (Up.refl _) i3))
    refine wss_cons (ws_asg (js := [5, 6]) (wg_call (ok__law_fallen T) (rm.mono (by decide)) T.m__law_fallen T.F__law_fallen.kp T.b__law_fallen (EA.to (ea_cons (ee_var (i := 0) rfl) (ea_cons (ee_var (i := 3) rfl) ea_nil)) ⟨[(q, _)], _, rfl, .mk i9 hb ⟨i10.1, by omega⟩ hpf hso hsl fun f3 d3 a8 c8 g1 g2 g3 g4 g5 => wg_tup (wgs_cons (wg_name (wgs_cons (wg_name (wgs_nil ?_) sc__law_right.nd)) sc__law_right.nd))⟩)))
    refine wss_mid (fun ds' m' => ∃ (l : List PyData) (y5 y6 y7 : Option SD) (a' c' : Int), lowL (sealT t) l ∧ l.length ≤ 4 ∧ 0 ≤ a' ∧ (0 ≤ c' ∧ c' ≤ 1000 * i + 500) ∧ ds' = [some (.raw (.ref p)), some x, some (S t), some (C (sealT t)), some (.raw (.ref q)), y5, y6, y7, y8, y9, y10] ∧ m' = (q, .dl l) :: Pt p a' b c' :: m) ?_ ?_
    · rcases g3 with ⟨rfl, rfl⟩ | ⟨at_, v, hat, rfl, rfl⟩
      · exact ws_ife (et_cmp (ee_var (i := 6) rfl) ee_non (by walk_at "cd")) (fun z => by cases z) fun _ => wss_nil ⟨_, _, _, _, a8, c8, low1, by simp, g4, ⟨g5.1, by omega⟩, rfl, rfl⟩
      · refine ws_ife (et_cmp (ee_var (i := 6) rfl) ee_non (by walk_at "cd")) (fun _ => ?_) fun z => by cases z
        have hw16 := w0_lt g1 at_
        have hfl := hex_from_len hw16
        have hll : (cut hexS (some ((w0 ((sealT t).set at_ v) at_ : Nat) : Int)) none).length ≤ 1000000 := Nat.le_trans (cut_le (n := 16) (by decide)) (by decide)
        have hc1 : (cut ((sealT t).set at_ v) none (some (at_ : Int))).length ≤ 256 := cut_le (by omega)
        have hc2 : (cut ((sealT t).set at_ v) (some ((at_ : Int) + 1)) none).length ≤ 256 := cut_le (by omega)
        refine wss_cons (ws_set (i := 7) sc__law_right.nd (wg_call (ok__law_of T) (rm.mono (by decide)) T.m__law_of T.F__law_of.kp T.b__law_of (EA.to (ea_cons (ee_var (i := 0) rfl) (ea_cons (ee_callTy (ea_cons (ee_slice (ee_strS (l := [48, 49, 50, 51, 52, 53, 54, 55, 56, 57, 97, 98, 99, 100, 101, 102])) (eo_some (eg_call (ok__law_code_worth T) (rm.mono (by decide)) T.m__law_code_worth T.F__law_code_worth.kp T.b__law_code_worth (ea_cons (ee_sub (ee_var (i := 5) rfl) (ee_var (i := 6) rfl) (fun m => by walk_at "sd")) ea_nil) (by walk_at "call _law_code_worth"))) eo_none (fun m => by walk_at "sl")) ea_nil) (fun m => by walk_at "ca") T.m_list bo_list) ea_nil)) ⟨[(q, _)], _, rfl, .mk g4 hb ⟨g5.1, by omega⟩ hfl hpf fun dv a9 c9 f4 f5 f6 => ?_⟩)))
        obtain ⟨u, hu1, hu2, rfl⟩ := hex_from hw16 f4
        have e := set_cut (ws := (sealT t).set at_ v) (p := at_) (v := u) (i := (at_ : Int)) (j := (at_ : Int) + 1) (by omega) rfl rfl
        rw [List.set_set] at e
        refine wss_one (ws_appH (d := .str ⟨(((sealT t).set at_ u).map dig).toArray⟩) (hq1 _ _) (ee_var (i := 4) rfl) (EE.is (ee_bin (ee_bin (ee_slice (ee_var (i := 5) rfl) eo_none (eo_some (ee_var (i := 6) rfl)) (fun m => by walk_at "sl")) (ee_var (i := 7) rfl) (by walk_at "bd")) (ee_slice (ee_var (i := 5) rfl) (eo_some (ee_bin (ee_var (i := 6) rfl) ee_int (by walk_at "bd"))) eo_none (fun m => by walk_at "sl")) (by walk_at "bd")) (C_eq e)) (by simp) ⟨_, _, _, _, a9, c9, low1.snoc (fun x hx => ?_) (by rw [List.length_set, hsl]) (Low1.set (Up.refl _)), by simp, f5, ⟨f6.1, by omega⟩, rfl, rfl⟩)
        rcases List.mem_or_eq_of_mem_set hx with z | z
        · exact hso x z
        · omega
    · rintro ds' m' ⟨l, z5, z6, z7, a9, c9, hlow, hll, ha9, hc9, rfl, rfl⟩
      refine wss_seal (i := 4) rfl ?_
      refine wss_cons (ws_ife (k := false) (et_not (k := true) (et_val (EE.is (ee_callB (ea_cons (ee_lcm l (fun d => SD.py d) (fun _ => PyData.bool true) [("one", 10)] rfl sc__law_right.nd (ei_lst (ee_var (i := 4) rfl)) (by omega) (fun d hd s H Ce cl_ fp => by
        obtain ⟨ws, w1, w2, w3, rfl⟩ := hlow d hd
        exact eg_call (ok__law_is_told T) (rm.mono (by decide)) T.m__law_is_told T.F__law_is_told.kp T.b__law_is_told (ea_cons (ee_var (i := 2) rfl) (ea_cons (EE.is (ee_var (i := 10) rfl) (show _ = C ws from rfl)) ea_nil)) (.mk ht htl w1 w2 w3)) (fun _ _ _ _ _ _ _ _ _ p => wg_name p sc__law_right.nd) (blkOk_by (by rfl))) ea_nil) (fun m => by walk_at "ca") T.m_all bo_all) (B_eq (b := true) (by simp))))) (fun z => by cases z) fun _ => wss_nil ?_)
      refine wss_cons (ws_set (i := 8) sc__law_right.nd (wg_call (ok__law_near_text T) (rm.mono (by decide)) T.m__law_near_text T.F__law_near_text.kp T.b__law_near_text (EA.to (ea_cons (ee_var (i := 0) rfl) (ea_cons (ee_var (i := 2) rfl) ea_nil)) ⟨[], _, rfl, .mk ha9 hb ⟨hc9.1, by omega⟩ hpf ht htl fun u b1 b2 u1 u2 u3 u4 => ?_⟩)))
      refine wss_one (ws_ife (et_cmp (ee_var (i := 8) rfl) (ee_var (i := 2) rfl) (by walk_at "cd")) (fun hne => ?_) fun _ => wss_nil ⟨_, _, _, _, _, _, _, _, _, _, b1, b2, u3, ⟨u4.1, by omega⟩, rfl, rfl⟩)
      have hne : u ≠ t := by
        rw [Bool.not_eq_true', decide_eq_false_iff_not] at hne
        exact hne
      have hsl2 := sealT_length u2
      have hso2 := sealT_ok u
      obtain ⟨p1, q1, pq1, pq2, pq3, pq4⟩ := two_greater ht u1 htl u2 fun z => hne z.symm
      obtain ⟨p2, q2, pr1, pr2, pr3, pr4⟩ := two_greater u1 ht u2 htl hne
      have m1 := cnt_two hsl hsl2 pq1 pq2 pq3 pq4
      have m2 := cnt_two hsl2 hsl pr1 pr2 pr3 pr4
      refine wss_cons (ws_setE (i := 9) sc__law_right.nd (d := Tp [.str ⟨((sealT t).map dig).toArray⟩, .str ⟨((sealT u).map dig).toArray⟩]) (ee_tup (eap_cons (eg_call (ok_sealed T) (rm.mono (by decide)) T.m_sealed T.F_sealed.kp T.b_sealed (ea_cons (ee_var (i := 2) rfl) ea_nil) (by walk_at "call sealed")) (eap_cons (eg_call (ok_sealed T) (rm.mono (by decide)) T.m_sealed T.F_sealed.kp T.b_sealed (ea_cons (ee_var (i := 8) rfl) ea_nil) (by walk_at "call sealed")) eap_nil))) ?_)
      refine wss_one (ws_ife (k := false) (ET.is (et_cmp (ee_callB (ea_cons (eg_call (ok__law_many_greater T) (rm.mono (by decide)) T.m__law_many_greater T.F__law_many_greater.kp T.b__law_many_greater (ea_cons (ee_sub (ee_var (i := 9) rfl) ee_int (fun m => by walk_at "sd")) (ea_cons (ee_sub (ee_var (i := 9) rfl) ee_int (fun m => by walk_at "sd")) ea_nil)) (by walk_at "call _law_many_greater")) (ea_cons (eg_call (ok__law_many_greater T) (rm.mono (by decide)) T.m__law_many_greater T.F__law_many_greater.kp T.b__law_many_greater (ea_cons (ee_sub (ee_var (i := 9) rfl) ee_int (fun m => by walk_at "sd")) (ea_cons (ee_sub (ee_var (i := 9) rfl) ee_int (fun m => by walk_at "sd")) ea_nil)) (by walk_at "call _law_many_greater")) ea_nil)) (fun m => by walk_at "ca") T.m_min bo_min) ee_int (by walk_at "cd")) (by rw [decide_eq_false_iff_not]; split <;> omega)) (fun z => by cases z) fun _ => wss_nil ⟨_, _, _, _, _, _, _, _, _, _, b1, b2, u3, ⟨u4.1, by omega⟩, rfl, rfl⟩)
  · rintro ds' m' ⟨y1, y2, y3, y4, y5, y6, y7, y8, y9, y10, a1, c1, ha1, hc1, rfl, rfl⟩
    exact wss_one (ws_retE ee_bl (h a1 c1))
theorem ok__law_cells (T : Tx K mg) : FnG P w K mg base CX0 1 T.a__law_cells T.d__law_cells ["script", "most"] (SpD K (pureF R__law_cells)) := by
  refine fnD_ok T.F__law_cells sc__law_cells (fun xs m Pp ⟨d, h, _⟩ => by cases h; rfl) (fun cdv A outer s H E rm xs m Pp ⟨d, hR, hp⟩ => ?_)
  cases hR with | @mk ns =>
  refine wss_one (ws_retE (EE.is (ee_listRg (n := cellsN ns.length) (EE.is (ee_callB (ea_cons ee_int (ea_cons (ee_callB (ea_cons (ee_var (i := 1) rfl) (ea_cons (ee_callB (ea_cons (ee_var (i := 0) rfl) ea_nil) (fun m => by walk_at "ca") T.m_len bo_len) ea_nil)) (fun m => by walk_at "ca") T.m_min bo_min) ea_nil)) (fun m => by walk_at "ca") T.m_max bo_max) (I_eq ?_)) ⟨(cellsN_le _).1, by have := (cellsN_le ns.length).2; omega⟩ T.m_list T.m_range) rfl) hp)
  unfold cellsN
  rw [List.length_map]
theorem ok_law (T : Tx K mg) : FnG P w K mg base CX0 9 T.a_law T.d_law ["script"] (SpD K F_law) := by
  refine fnD_ok T.F_law sc_law (fun xs m Pp h => by cases h; rfl) (fun cdv A outer s H E rm xs m Pp hF => ?_)
  cases hF with | @mk ns m Pp hl h =>
  refine wss_one (ws_ret (we_callB (wa_cons (we_lcI (fun i acc m' => acc = List.replicate i (PyData.bool true) ∧ m' = m) [("place", 1)] rfl sc_law.nd
    (EI.to (ei_lst (eg_call (ok__law_cells T) (rm.mono (by decide)) T.m__law_cells T.F__law_cells.kp T.b__law_cells (ea_cons (ee_var (i := 0) rfl) (ea_cons ee_int ea_nil)) (by walk_at "call _law_cells"))) ⟨by rw [List.length_map, List.length_map, List.length_range]; have := (cellsN_le ns.length).2; omega, ⟨rfl, rfl⟩, ?_, ?_⟩)
    (fun _ _ _ _ _ _ _ _ _ p => wg_name p sc_law.nd) (blkOk_by (by rfl)))) T.m_all bo_all))
  · rintro i y acc m' hy hi ⟨rfl, rfl⟩ s H Ce cl fp
    obtain ⟨d, hd, rfl⟩ := map_get hy
    obtain ⟨k, hk, rfl⟩ := map_get hd
    have hk2 := List.mem_range.mp (List.mem_of_getElem? hk)
    have hc := cellsN_le ns.length
    refine WE.drop (wg_call (ok__law_right T) (rm.mono (by decide)) T.m__law_right T.F__law_right.kp T.b__law_right (wa_cons (wg_call (ok__law_pot T) (rm.mono (by decide)) T.m__law_pot T.F__law_pot.kp T.b__law_pot (EA.to (ea_cons (ee_var (i := 0) rfl) (ea_cons (ee_var (i := 1) rfl) ea_nil)) ⟨[], _, rfl, .mk hl (by omega) fun p a b hpf ha hb => wa_nil ⟨[], _, rfl, .mk ha hb hpf fun a' c' => ⟨_, _, rfl, _, rfl, ?_, rfl⟩⟩⟩))))
    rw [List.replicate_succ']
  · rintro acc m' hi ⟨rfl, rfl⟩
    refine wa_nil ⟨_, ca_allT, h⟩
end
end K08
end W9
namespace W9
namespace K08
open PySem PySem.Spec PyProof.Rows L2
theorem all_mk {l : PySem.W.OpenLaw} {w : World} {K : PySem.W.Frag} {h : Heap} {mg : Str → Option Value} {fa : Addr} (X : K.In h) (G : h.Ns mainGlobals mg) (hfa : mg "law" = some (.ref fa))
    {f1 : Addr} {od1 an1 : Option Addr} {sl1 : Array (Option Value)} {oc1 kV1 dc1 pm1 cd1 ct1 : Value}
    {f2 : Addr} {od2 an2 : Option Addr} {sl2 : Array (Option Value)} {oc2 kV2 dc2 pm2 cd2 ct2 : Value}
    {f3 : Addr} {od3 an3 : Option Addr} {sl3 : Array (Option Value)} {oc3 kV3 dc3 pm3 cd3 ct3 : Value}
    {f4 : Addr} {od4 an4 : Option Addr} {sl4 : Array (Option Value)} {oc4 kV4 dc4 pm4 cd4 ct4 : Value}
    {f5 : Addr} {od5 an5 : Option Addr} {sl5 : Array (Option Value)} {oc5 kV5 dc5 pm5 cd5 ct5 : Value}
    {f6 : Addr} {od6 an6 : Option Addr} {sl6 : Array (Option Value)} {oc6 kV6 dc6 pm6 cd6 ct6 : Value}
    {f7 : Addr} {od7 an7 : Option Addr} {sl7 : Array (Option Value)} {oc7 kV7 dc7 pm7 cd7 ct7 : Value}
    {f8 : Addr} {od8 an8 : Option Addr} {sl8 : Array (Option Value)} {oc8 kV8 dc8 pm8 cd8 ct8 : Value}
    {f9 : Addr} {od9 an9 : Option Addr} {sl9 : Array (Option Value)} {oc9 kV9 dc9 pm9 cd9 ct9 : Value}
    {f10 : Addr} {od10 an10 : Option Addr} {sl10 : Array (Option Value)} {oc10 kV10 dc10 pm10 cd10 ct10 : Value}
    {f11 : Addr} {od11 an11 : Option Addr} {sl11 : Array (Option Value)} {oc11 kV11 dc11 pm11 cd11 ct11 : Value}
    {f12 : Addr} {od12 an12 : Option Addr} {sl12 : Array (Option Value)} {oc12 kV12 dc12 pm12 cd12 ct12 : Value}
    {f13 : Addr} {od13 an13 : Option Addr} {sl13 : Array (Option Value)} {oc13 kV13 dc13 pm13 cd13 ct13 : Value}
    {f14 : Addr} {od14 an14 : Option Addr} {sl14 : Array (Option Value)} {oc14 kV14 dc14 pm14 cd14 ct14 : Value}
    {f15 : Addr} {od15 an15 : Option Addr} {sl15 : Array (Option Value)} {oc15 kV15 dc15 pm15 cd15 ct15 : Value}
    {f16 : Addr} {od16 an16 : Option Addr} {sl16 : Array (Option Value)} {oc16 kV16 dc16 pm16 cd16 ct16 : Value}
    {f17 : Addr} {od17 an17 : Option Addr} {sl17 : Array (Option Value)} {oc17 kV17 dc17 pm17 cd17 ct17 : Value}
    {f18 : Addr} {od18 an18 : Option Addr} {sl18 : Array (Option Value)} {oc18 kV18 dc18 pm18 cd18 ct18 : Value}
    {f19 : Addr} {od19 an19 : Option Addr} {sl19 : Array (Option Value)} {oc19 kV19 dc19 pm19 cd19 ct19 : Value}
    {f20 : Addr} {od20 an20 : Option Addr} {sl20 : Array (Option Value)} {oc20 kV20 dc20 pm20 cd20 ct20 : Value}
    {f21 : Addr} {od21 an21 : Option Addr} {sl21 : Array (Option Value)} {oc21 kV21 dc21 pm21 cd21 ct21 : Value}
    {f22 : Addr} {od22 an22 : Option Addr} {sl22 : Array (Option Value)} {oc22 kV22 dc22 pm22 cd22 ct22 : Value}
    {f23 : Addr} {od23 an23 : Option Addr} {sl23 : Array (Option Value)} {oc23 kV23 dc23 pm23 cd23 ct23 : Value}
    {f24 : Addr} {od24 an24 : Option Addr} {sl24 : Array (Option Value)} {oc24 kV24 dc24 pm24 cd24 ct24 : Value}
    {f25 : Addr} {od25 an25 : Option Addr} {sl25 : Array (Option Value)} {oc25 kV25 dc25 pm25 cd25 ct25 : Value}
    {f26 : Addr} {od26 an26 : Option Addr} {sl26 : Array (Option Value)} {oc26 kV26 dc26 pm26 cd26 ct26 : Value}
    {f27 : Addr} {od27 an27 : Option Addr} {sl27 : Array (Option Value)} {oc27 kV27 dc27 pm27 cd27 ct27 : Value}
    {f28 : Addr} {od28 an28 : Option Addr} {sl28 : Array (Option Value)} {oc28 kV28 dc28 pm28 cd28 ct28 : Value}
    {f29 : Addr} {od29 an29 : Option Addr} {sl29 : Array (Option Value)} {oc29 kV29 dc29 pm29 cd29 ct29 : Value}
    {f30 : Addr} {od30 an30 : Option Addr} {sl30 : Array (Option Value)} {oc30 kV30 dc30 pm30 cd30 ct30 : Value}
    {f31 : Addr} {od31 an31 : Option Addr} {sl31 : Array (Option Value)} {oc31 kV31 dc31 pm31 cd31 ct31 : Value}
    {f32 : Addr} {od32 an32 : Option Addr} {sl32 : Array (Option Value)} {oc32 kV32 dc32 pm32 cd32 ct32 : Value}
    {f33 : Addr} {od33 an33 : Option Addr} {sl33 : Array (Option Value)} {oc33 kV33 dc33 pm33 cd33 ct33 : Value}
    {f34 : Addr} {od34 an34 : Option Addr} {sl34 : Array (Option Value)} {oc34 kV34 dc34 pm34 cd34 ct34 : Value}
    {f35 : Addr} {od35 an35 : Option Addr} {sl35 : Array (Option Value)} {oc35 kV35 dc35 pm35 cd35 ct35 : Value}
    {f36 : Addr} {od36 an36 : Option Addr} {sl36 : Array (Option Value)} {oc36 kV36 dc36 pm36 cd36 ct36 : Value}
    {f37 : Addr} {od37 an37 : Option Addr} {sl37 : Array (Option Value)} {oc37 kV37 dc37 pm37 cd37 ct37 : Value}
    {f38 : Addr} {od38 an38 : Option Addr} {sl38 : Array (Option Value)} {oc38 kV38 dc38 pm38 cd38 ct38 : Value}
    {f39 : Addr} {od39 an39 : Option Addr} {sl39 : Array (Option Value)} {oc39 kV39 dc39 pm39 cd39 ct39 : Value}
    {f40 : Addr} {od40 an40 : Option Addr} {sl40 : Array (Option Value)} {oc40 kV40 dc40 pm40 cd40 ct40 : Value}
    {f41 : Addr} {od41 an41 : Option Addr} {sl41 : Array (Option Value)} {oc41 kV41 dc41 pm41 cd41 ct41 : Value}
    {f42 : Addr} {od42 an42 : Option Addr} {sl42 : Array (Option Value)} {oc42 kV42 dc42 pm42 cd42 ct42 : Value}
    {f43 : Addr} {od43 an43 : Option Addr} {sl43 : Array (Option Value)} {oc43 kV43 dc43 pm43 cd43 ct43 : Value}
    {f44 : Addr} {od44 an44 : Option Addr} {sl44 : Array (Option Value)} {oc44 kV44 dc44 pm44 cd44 ct44 : Value}
    {f45 : Addr} {od45 an45 : Option Addr} {sl45 : Array (Option Value)} {oc45 kV45 dc45 pm45 cd45 ct45 : Value}
    {f46 : Addr} {od46 an46 : Option Addr} {sl46 : Array (Option Value)} {oc46 kV46 dc46 pm46 cd46 ct46 : Value}
    {f47 : Addr} {od47 an47 : Option Addr} {sl47 : Array (Option Value)} {oc47 kV47 dc47 pm47 cd47 ct47 : Value}
    {f48 : Addr} {od48 an48 : Option Addr} {sl48 : Array (Option Value)} {oc48 kV48 dc48 pm48 cd48 ct48 : Value}
    {f49 : Addr} {od49 an49 : Option Addr} {sl49 : Array (Option Value)} {oc49 kV49 dc49 pm49 cd49 ct49 : Value}
    {t67 : Tok} {x67 : Str}
    {t68 : Tok} {x68 : Str}
    {t69 : Tok} {x69 : Str}
    {t70 : Tok} {x70 : Str}
    {t71 : Tok}
    {t72 : Tok}
    {t73 : Tok} {x73 : Str}
    {t74 : Tok} {x74 : Str}
    {t75 : Tok} {x75 : Str}
    {t76 : Tok} {x76 : Str}
    {t77 : Tok}
    {t78 : Tok}
    {t79 : Tok}
    {t80 : Tok} {x80 : Str}
    {t81 : Tok}
    {t82 : Tok}
    {t83 : Tok}
    {t84 : Tok}
    {f85 : Addr} {od85 : Option Addr} {sl85 : Array (Option Value)} {u85 : Nat} {t85_0 : Tok} {t85_1 : Tok} {t85_2 : Tok}
    (a1 : PySem.W.nsIn K mainGlobals "are_cells" = some (some (.ref f1))) (l1 : K.lookup f1 = some ⟨oc1, od1, .func (PySem.W.fnOf "are_cells" "are_cells" (defArgs (topS 7)) (defBody (topS 7)) (defScope (topS 7)) .none kV1 dc1 pm1 an1 cd1 ct1), sl1⟩) (c1 : PySem.W.codeIn K cd1 "are_cells" = true) (k1 : PySem.W.keepIn K (.ref f1) = true)
    (a2 : PySem.W.nsIn K mainGlobals "is_page" = some (some (.ref f2))) (l2 : K.lookup f2 = some ⟨oc2, od2, .func (PySem.W.fnOf "is_page" "is_page" (defArgs (topS 8)) (defBody (topS 8)) (defScope (topS 8)) .none kV2 dc2 pm2 an2 cd2 ct2), sl2⟩) (c2 : PySem.W.codeIn K cd2 "is_page" = true) (k2 : PySem.W.keepIn K (.ref f2) = true)
    (a3 : PySem.W.nsIn K mainGlobals "is_page_text" = some (some (.ref f3))) (l3 : K.lookup f3 = some ⟨oc3, od3, .func (PySem.W.fnOf "is_page_text" "is_page_text" (defArgs (topS 9)) (defBody (topS 9)) (defScope (topS 9)) .none kV3 dc3 pm3 an3 cd3 ct3), sl3⟩) (c3 : PySem.W.codeIn K cd3 "is_page_text" = true) (k3 : PySem.W.keepIn K (.ref f3) = true)
    (a4 : PySem.W.nsIn K mainGlobals "cell_number" = some (some (.ref f4))) (l4 : K.lookup f4 = some ⟨oc4, od4, .func (PySem.W.fnOf "cell_number" "cell_number" (defArgs (topS 28)) (defBody (topS 28)) (defScope (topS 28)) .none kV4 dc4 pm4 an4 cd4 ct4), sl4⟩) (c4 : PySem.W.codeIn K cd4 "cell_number" = true) (k4 : PySem.W.keepIn K (.ref f4) = true)
    (a5 : PySem.W.nsIn K mainGlobals "number_in_cells" = some (some (.ref f5))) (l5 : K.lookup f5 = some ⟨oc5, od5, .func (PySem.W.fnOf "number_in_cells" "number_in_cells" (defArgs (topS 29)) (defBody (topS 29)) (defScope (topS 29)) .none kV5 dc5 pm5 an5 cd5 ct5), sl5⟩) (c5 : PySem.W.codeIn K cd5 "number_in_cells" = true) (k5 : PySem.W.keepIn K (.ref f5) = true)
    (a6 : PySem.W.nsIn K mainGlobals "cells_of_number" = some (some (.ref f6))) (l6 : K.lookup f6 = some ⟨oc6, od6, .func (PySem.W.fnOf "cells_of_number" "cells_of_number" (defArgs (topS 30)) (defBody (topS 30)) (defScope (topS 30)) .none kV6 dc6 pm6 an6 cd6 ct6), sl6⟩) (c6 : PySem.W.codeIn K cd6 "cells_of_number" = true) (k6 : PySem.W.keepIn K (.ref f6) = true)
    (a7 : PySem.W.nsIn K mainGlobals "contrary" = some (some (.ref f7))) (l7 : K.lookup f7 = some ⟨oc7, od7, .func (PySem.W.fnOf "contrary" "contrary" (defArgs (topS 31)) (defBody (topS 31)) (defScope (topS 31)) .none kV7 dc7 pm7 an7 cd7 ct7), sl7⟩) (c7 : PySem.W.codeIn K cd7 "contrary" = true) (k7 : PySem.W.keepIn K (.ref f7) = true)
    (a8 : PySem.W.nsIn K mainGlobals "sums_of" = some (some (.ref f8))) (l8 : K.lookup f8 = some ⟨oc8, od8, .func (PySem.W.fnOf "sums_of" "sums_of" (defArgs (topS 32)) (defBody (topS 32)) (defScope (topS 32)) .none kV8 dc8 pm8 an8 cd8 ct8), sl8⟩) (c8 : PySem.W.codeIn K cd8 "sums_of" = true) (k8 : PySem.W.keepIn K (.ref f8) = true)
    (a9 : PySem.W.nsIn K mainGlobals "sum_cells" = some (some (.ref f9))) (l9 : K.lookup f9 = some ⟨oc9, od9, .func (PySem.W.fnOf "sum_cells" "sum_cells" (defArgs (topS 33)) (defBody (topS 33)) (defScope (topS 33)) .none kV9 dc9 pm9 an9 cd9 ct9), sl9⟩) (c9 : PySem.W.codeIn K cd9 "sum_cells" = true) (k9 : PySem.W.keepIn K (.ref f9) = true)
    (a10 : PySem.W.nsIn K mainGlobals "sign_number" = some (some (.ref f10))) (l10 : K.lookup f10 = some ⟨oc10, od10, .func (PySem.W.fnOf "sign_number" "sign_number" (defArgs (topS 34)) (defBody (topS 34)) (defScope (topS 34)) .none kV10 dc10 pm10 an10 cd10 ct10), sl10⟩) (c10 : PySem.W.codeIn K cd10 "sign_number" = true) (k10 : PySem.W.keepIn K (.ref f10) = true)
    (a11 : PySem.W.nsIn K mainGlobals "sign_of" = some (some (.ref f11))) (l11 : K.lookup f11 = some ⟨oc11, od11, .func (PySem.W.fnOf "sign_of" "sign_of" (defArgs (topS 35)) (defBody (topS 35)) (defScope (topS 35)) .none kV11 dc11 pm11 an11 cd11 ct11), sl11⟩) (c11 : PySem.W.codeIn K cd11 "sign_of" = true) (k11 : PySem.W.keepIn K (.ref f11) = true)
    (a12 : PySem.W.nsIn K mainGlobals "text_cells" = some (some (.ref f12))) (l12 : K.lookup f12 = some ⟨oc12, od12, .func (PySem.W.fnOf "text_cells" "text_cells" (defArgs (topS 36)) (defBody (topS 36)) (defScope (topS 36)) .none kV12 dc12 pm12 an12 cd12 ct12), sl12⟩) (c12 : PySem.W.codeIn K cd12 "text_cells" = true) (k12 : PySem.W.keepIn K (.ref f12) = true)
    (a13 : PySem.W.nsIn K mainGlobals "signs_in" = some (some (.ref f13))) (l13 : K.lookup f13 = some ⟨oc13, od13, .func (PySem.W.fnOf "signs_in" "signs_in" (defArgs (topS 37)) (defBody (topS 37)) (defScope (topS 37)) .none kV13 dc13 pm13 an13 cd13 ct13), sl13⟩) (c13 : PySem.W.codeIn K cd13 "signs_in" = true) (k13 : PySem.W.keepIn K (.ref f13) = true)
    (a14 : PySem.W.nsIn K mainGlobals "sealed_page" = some (some (.ref f14))) (l14 : K.lookup f14 = some ⟨oc14, od14, .func (PySem.W.fnOf "sealed_page" "sealed_page" (defArgs (topS 38)) (defBody (topS 38)) (defScope (topS 38)) .none kV14 dc14 pm14 an14 cd14 ct14), sl14⟩) (c14 : PySem.W.codeIn K cd14 "sealed_page" = true) (k14 : PySem.W.keepIn K (.ref f14) = true)
    (a15 : PySem.W.nsIn K mainGlobals "sealed" = some (some (.ref f15))) (l15 : K.lookup f15 = some ⟨oc15, od15, .func (PySem.W.fnOf "sealed" "sealed" (defArgs (topS 39)) (defBody (topS 39)) (defScope (topS 39)) .none kV15 dc15 pm15 an15 cd15 ct15), sl15⟩) (c15 : PySem.W.codeIn K cd15 "sealed" = true) (k15 : PySem.W.keepIn K (.ref f15) = true)
    (a16 : PySem.W.nsIn K mainGlobals "told_sums" = some (some (.ref f16))) (l16 : K.lookup f16 = some ⟨oc16, od16, .func (PySem.W.fnOf "told_sums" "told_sums" (defArgs (topS 40)) (defBody (topS 40)) (defScope (topS 40)) .none kV16 dc16 pm16 an16 cd16 ct16), sl16⟩) (c16 : PySem.W.codeIn K cd16 "told_sums" = true) (k16 : PySem.W.keepIn K (.ref f16) = true)
    (a17 : PySem.W.nsIn K mainGlobals "fallen_in_text" = some (some (.ref f17))) (l17 : K.lookup f17 = some ⟨oc17, od17, .func (PySem.W.fnOf "fallen_in_text" "fallen_in_text" (defArgs (topS 41)) (defBody (topS 41)) (defScope (topS 41)) .none kV17 dc17 pm17 an17 cd17 ct17), sl17⟩) (c17 : PySem.W.codeIn K cd17 "fallen_in_text" = true) (k17 : PySem.W.keepIn K (.ref f17) = true)
    (a18 : PySem.W.nsIn K mainGlobals "fallen_in_sums" = some (some (.ref f18))) (l18 : K.lookup f18 = some ⟨oc18, od18, .func (PySem.W.fnOf "fallen_in_sums" "fallen_in_sums" (defArgs (topS 42)) (defBody (topS 42)) (defScope (topS 42)) .none kV18 dc18 pm18 an18 cd18 ct18), sl18⟩) (c18 : PySem.W.codeIn K cd18 "fallen_in_sums" = true) (k18 : PySem.W.keepIn K (.ref f18) = true)
    (a19 : PySem.W.nsIn K mainGlobals "opened" = some (some (.ref f19))) (l19 : K.lookup f19 = some ⟨oc19, od19, .func (PySem.W.fnOf "opened" "opened" (defArgs (topS 43)) (defBody (topS 43)) (defScope (topS 43)) .none kV19 dc19 pm19 an19 cd19 ct19), sl19⟩) (c19 : PySem.W.codeIn K cd19 "opened" = true) (k19 : PySem.W.keepIn K (.ref f19) = true)
    (a20 : PySem.W.nsIn K mainGlobals "_law_pot" = some (some (.ref f20))) (l20 : K.lookup f20 = some ⟨oc20, od20, .func (PySem.W.fnOf "_law_pot" "_law_pot" (defArgs (topS 45)) (defBody (topS 45)) (defScope (topS 45)) .none kV20 dc20 pm20 an20 cd20 ct20), sl20⟩) (c20 : PySem.W.codeIn K cd20 "_law_pot" = true) (k20 : PySem.W.keepIn K (.ref f20) = true)
    (a21 : PySem.W.nsIn K mainGlobals "_law_take" = some (some (.ref f21))) (l21 : K.lookup f21 = some ⟨oc21, od21, .func (PySem.W.fnOf "_law_take" "_law_take" (defArgs (topS 46)) (defBody (topS 46)) (defScope (topS 46)) .none kV21 dc21 pm21 an21 cd21 ct21), sl21⟩) (c21 : PySem.W.codeIn K cd21 "_law_take" = true) (k21 : PySem.W.keepIn K (.ref f21) = true)
    (a22 : PySem.W.nsIn K mainGlobals "_law_of" = some (some (.ref f22))) (l22 : K.lookup f22 = some ⟨oc22, od22, .func (PySem.W.fnOf "_law_of" "_law_of" (defArgs (topS 47)) (defBody (topS 47)) (defScope (topS 47)) .none kV22 dc22 pm22 an22 cd22 ct22), sl22⟩) (c22 : PySem.W.codeIn K cd22 "_law_of" = true) (k22 : PySem.W.keepIn K (.ref f22) = true)
    (a23 : PySem.W.nsIn K mainGlobals "_law_cells" = some (some (.ref f23))) (l23 : K.lookup f23 = some ⟨oc23, od23, .func (PySem.W.fnOf "_law_cells" "_law_cells" (defArgs (topS 48)) (defBody (topS 48)) (defScope (topS 48)) .none kV23 dc23 pm23 an23 cd23 ct23), sl23⟩) (c23 : PySem.W.codeIn K cd23 "_law_cells" = true) (k23 : PySem.W.keepIn K (.ref f23) = true)
    (a24 : PySem.W.nsIn K mainGlobals "_law_chip_torn" = some (some (.ref f24))) (l24 : K.lookup f24 = some ⟨oc24, od24, .func (PySem.W.fnOf "_law_chip_torn" "_law_chip_torn" (defArgs (topS 49)) (defBody (topS 49)) (defScope (topS 49)) .none kV24 dc24 pm24 an24 cd24 ct24), sl24⟩) (c24 : PySem.W.codeIn K cd24 "_law_chip_torn" = true) (k24 : PySem.W.keepIn K (.ref f24) = true)
    (a25 : PySem.W.nsIn K mainGlobals "_law_chip_pattern" = some (some (.ref f25))) (l25 : K.lookup f25 = some ⟨oc25, od25, .func (PySem.W.fnOf "_law_chip_pattern" "_law_chip_pattern" (defArgs (topS 50)) (defBody (topS 50)) (defScope (topS 50)) .none kV25 dc25 pm25 an25 cd25 ct25), sl25⟩) (c25 : PySem.W.codeIn K cd25 "_law_chip_pattern" = true) (k25 : PySem.W.keepIn K (.ref f25) = true)
    (a26 : PySem.W.nsIn K mainGlobals "_law_code_worth" = some (some (.ref f26))) (l26 : K.lookup f26 = some ⟨oc26, od26, .func (PySem.W.fnOf "_law_code_worth" "_law_code_worth" (defArgs (topS 51)) (defBody (topS 51)) (defScope (topS 51)) .none kV26 dc26 pm26 an26 cd26 ct26), sl26⟩) (c26 : PySem.W.codeIn K cd26 "_law_code_worth" = true) (k26 : PySem.W.keepIn K (.ref f26) = true)
    (a27 : PySem.W.nsIn K mainGlobals "_law_code_sums" = some (some (.ref f27))) (l27 : K.lookup f27 = some ⟨oc27, od27, .func (PySem.W.fnOf "_law_code_sums" "_law_code_sums" (defArgs (topS 52)) (defBody (topS 52)) (defScope (topS 52)) .none kV27 dc27 pm27 an27 cd27 ct27), sl27⟩) (c27 : PySem.W.codeIn K cd27 "_law_code_sums" = true) (k27 : PySem.W.keepIn K (.ref f27) = true)
    (a28 : PySem.W.nsIn K mainGlobals "_law_code_figures" = some (some (.ref f28))) (l28 : K.lookup f28 = some ⟨oc28, od28, .func (PySem.W.fnOf "_law_code_figures" "_law_code_figures" (defArgs (topS 53)) (defBody (topS 53)) (defScope (topS 53)) .none kV28 dc28 pm28 an28 cd28 ct28), sl28⟩) (c28 : PySem.W.codeIn K cd28 "_law_code_figures" = true) (k28 : PySem.W.keepIn K (.ref f28) = true)
    (a29 : PySem.W.nsIn K mainGlobals "_law_code_number" = some (some (.ref f29))) (l29 : K.lookup f29 = some ⟨oc29, od29, .func (PySem.W.fnOf "_law_code_number" "_law_code_number" (defArgs (topS 54)) (defBody (topS 54)) (defScope (topS 54)) .none kV29 dc29 pm29 an29 cd29 ct29), sl29⟩) (c29 : PySem.W.codeIn K cd29 "_law_code_number" = true) (k29 : PySem.W.keepIn K (.ref f29) = true)
    (a30 : PySem.W.nsIn K mainGlobals "_law_code_turned" = some (some (.ref f30))) (l30 : K.lookup f30 = some ⟨oc30, od30, .func (PySem.W.fnOf "_law_code_turned" "_law_code_turned" (defArgs (topS 55)) (defBody (topS 55)) (defScope (topS 55)) .none kV30 dc30 pm30 an30 cd30 ct30), sl30⟩) (c30 : PySem.W.codeIn K cd30 "_law_code_turned" = true) (k30 : PySem.W.keepIn K (.ref f30) = true)
    (a31 : PySem.W.nsIn K mainGlobals "_law_code_tail" = some (some (.ref f31))) (l31 : K.lookup f31 = some ⟨oc31, od31, .func (PySem.W.fnOf "_law_code_tail" "_law_code_tail" (defArgs (topS 56)) (defBody (topS 56)) (defScope (topS 56)) .none kV31 dc31 pm31 an31 cd31 ct31), sl31⟩) (c31 : PySem.W.codeIn K cd31 "_law_code_tail" = true) (k31 : PySem.W.keepIn K (.ref f31) = true)
    (a32 : PySem.W.nsIn K mainGlobals "_law_code_signs" = some (some (.ref f32))) (l32 : K.lookup f32 = some ⟨oc32, od32, .func (PySem.W.fnOf "_law_code_signs" "_law_code_signs" (defArgs (topS 57)) (defBody (topS 57)) (defScope (topS 57)) .none kV32 dc32 pm32 an32 cd32 ct32), sl32⟩) (c32 : PySem.W.codeIn K cd32 "_law_code_signs" = true) (k32 : PySem.W.keepIn K (.ref f32) = true)
    (a33 : PySem.W.nsIn K mainGlobals "_law_code_sealed" = some (some (.ref f33))) (l33 : K.lookup f33 = some ⟨oc33, od33, .func (PySem.W.fnOf "_law_code_sealed" "_law_code_sealed" (defArgs (topS 58)) (defBody (topS 58)) (defScope (topS 58)) .none kV33 dc33 pm33 an33 cd33 ct33), sl33⟩) (c33 : PySem.W.codeIn K cd33 "_law_code_sealed" = true) (k33 : PySem.W.keepIn K (.ref f33) = true)
    (a34 : PySem.W.nsIn K mainGlobals "_law_code_by_numbers" = some (some (.ref f34))) (l34 : K.lookup f34 = some ⟨oc34, od34, .func (PySem.W.fnOf "_law_code_by_numbers" "_law_code_by_numbers" (defArgs (topS 59)) (defBody (topS 59)) (defScope (topS 59)) .none kV34 dc34 pm34 an34 cd34 ct34), sl34⟩) (c34 : PySem.W.codeIn K cd34 "_law_code_by_numbers" = true) (k34 : PySem.W.keepIn K (.ref f34) = true)
    (a35 : PySem.W.nsIn K mainGlobals "_law_code_text" = some (some (.ref f35))) (l35 : K.lookup f35 = some ⟨oc35, od35, .func (PySem.W.fnOf "_law_code_text" "_law_code_text" (defArgs (topS 60)) (defBody (topS 60)) (defScope (topS 60)) .none kV35 dc35 pm35 an35 cd35 ct35), sl35⟩) (c35 : PySem.W.codeIn K cd35 "_law_code_text" = true) (k35 : PySem.W.keepIn K (.ref f35) = true)
    (a36 : PySem.W.nsIn K mainGlobals "_law_code_unlike" = some (some (.ref f36))) (l36 : K.lookup f36 = some ⟨oc36, od36, .func (PySem.W.fnOf "_law_code_unlike" "_law_code_unlike" (defArgs (topS 61)) (defBody (topS 61)) (defScope (topS 61)) .none kV36 dc36 pm36 an36 cd36 ct36), sl36⟩) (c36 : PySem.W.codeIn K cd36 "_law_code_unlike" = true) (k36 : PySem.W.keepIn K (.ref f36) = true)
    (a37 : PySem.W.nsIn K mainGlobals "_law_code_fallen" = some (some (.ref f37))) (l37 : K.lookup f37 = some ⟨oc37, od37, .func (PySem.W.fnOf "_law_code_fallen" "_law_code_fallen" (defArgs (topS 62)) (defBody (topS 62)) (defScope (topS 62)) .none kV37 dc37 pm37 an37 cd37 ct37), sl37⟩) (c37 : PySem.W.codeIn K cd37 "_law_code_fallen" = true) (k37 : PySem.W.keepIn K (.ref f37) = true)
    (a38 : PySem.W.nsIn K mainGlobals "_law_code_told" = some (some (.ref f38))) (l38 : K.lookup f38 = some ⟨oc38, od38, .func (PySem.W.fnOf "_law_code_told" "_law_code_told" (defArgs (topS 63)) (defBody (topS 63)) (defScope (topS 63)) .none kV38 dc38 pm38 an38 cd38 ct38), sl38⟩) (c38 : PySem.W.codeIn K cd38 "_law_code_told" = true) (k38 : PySem.W.keepIn K (.ref f38) = true)
    (a39 : PySem.W.nsIn K mainGlobals "_law_code_lifted" = some (some (.ref f39))) (l39 : K.lookup f39 = some ⟨oc39, od39, .func (PySem.W.fnOf "_law_code_lifted" "_law_code_lifted" (defArgs (topS 64)) (defBody (topS 64)) (defScope (topS 64)) .none kV39 dc39 pm39 an39 cd39 ct39), sl39⟩) (c39 : PySem.W.codeIn K cd39 "_law_code_lifted" = true) (k39 : PySem.W.keepIn K (.ref f39) = true)
    (a40 : PySem.W.nsIn K mainGlobals "_law_code_opened" = some (some (.ref f40))) (l40 : K.lookup f40 = some ⟨oc40, od40, .func (PySem.W.fnOf "_law_code_opened" "_law_code_opened" (defArgs (topS 65)) (defBody (topS 65)) (defScope (topS 65)) .none kV40 dc40 pm40 an40 cd40 ct40), sl40⟩) (c40 : PySem.W.codeIn K cd40 "_law_code_opened" = true) (k40 : PySem.W.keepIn K (.ref f40) = true)
    (a41 : PySem.W.nsIn K mainGlobals "_law_text_drawn" = some (some (.ref f41))) (l41 : K.lookup f41 = some ⟨oc41, od41, .func (PySem.W.fnOf "_law_text_drawn" "_law_text_drawn" (defArgs (topS 66)) (defBody (topS 66)) (defScope (topS 66)) .none kV41 dc41 pm41 an41 cd41 ct41), sl41⟩) (c41 : PySem.W.codeIn K cd41 "_law_text_drawn" = true) (k41 : PySem.W.keepIn K (.ref f41) = true)
    (a42 : PySem.W.nsIn K mainGlobals "_law_raised" = some (some (.ref f42))) (l42 : K.lookup f42 = some ⟨oc42, od42, .func (PySem.W.fnOf "_law_raised" "_law_raised" (defArgs (topS 67)) (defBody (topS 67)) (defScope (topS 67)) .none kV42 dc42 pm42 an42 cd42 ct42), sl42⟩) (c42 : PySem.W.codeIn K cd42 "_law_raised" = true) (k42 : PySem.W.keepIn K (.ref f42) = true)
    (a43 : PySem.W.nsIn K mainGlobals "_law_fallen" = some (some (.ref f43))) (l43 : K.lookup f43 = some ⟨oc43, od43, .func (PySem.W.fnOf "_law_fallen" "_law_fallen" (defArgs (topS 68)) (defBody (topS 68)) (defScope (topS 68)) .none kV43 dc43 pm43 an43 cd43 ct43), sl43⟩) (c43 : PySem.W.codeIn K cd43 "_law_fallen" = true) (k43 : PySem.W.keepIn K (.ref f43) = true)
    (a44 : PySem.W.nsIn K mainGlobals "_law_evened" = some (some (.ref f44))) (l44 : K.lookup f44 = some ⟨oc44, od44, .func (PySem.W.fnOf "_law_evened" "_law_evened" (defArgs (topS 69)) (defBody (topS 69)) (defScope (topS 69)) .none kV44 dc44 pm44 an44 cd44 ct44), sl44⟩) (c44 : PySem.W.codeIn K cd44 "_law_evened" = true) (k44 : PySem.W.keepIn K (.ref f44) = true)
    (a45 : PySem.W.nsIn K mainGlobals "_law_is_told" = some (some (.ref f45))) (l45 : K.lookup f45 = some ⟨oc45, od45, .func (PySem.W.fnOf "_law_is_told" "_law_is_told" (defArgs (topS 70)) (defBody (topS 70)) (defScope (topS 70)) .none kV45 dc45 pm45 an45 cd45 ct45), sl45⟩) (c45 : PySem.W.codeIn K cd45 "_law_is_told" = true) (k45 : PySem.W.keepIn K (.ref f45) = true)
    (a46 : PySem.W.nsIn K mainGlobals "_law_near_text" = some (some (.ref f46))) (l46 : K.lookup f46 = some ⟨oc46, od46, .func (PySem.W.fnOf "_law_near_text" "_law_near_text" (defArgs (topS 71)) (defBody (topS 71)) (defScope (topS 71)) .none kV46 dc46 pm46 an46 cd46 ct46), sl46⟩) (c46 : PySem.W.codeIn K cd46 "_law_near_text" = true) (k46 : PySem.W.keepIn K (.ref f46) = true)
    (a47 : PySem.W.nsIn K mainGlobals "_law_many_greater" = some (some (.ref f47))) (l47 : K.lookup f47 = some ⟨oc47, od47, .func (PySem.W.fnOf "_law_many_greater" "_law_many_greater" (defArgs (topS 72)) (defBody (topS 72)) (defScope (topS 72)) .none kV47 dc47 pm47 an47 cd47 ct47), sl47⟩) (c47 : PySem.W.codeIn K cd47 "_law_many_greater" = true) (k47 : PySem.W.keepIn K (.ref f47) = true)
    (a48 : PySem.W.nsIn K mainGlobals "_law_right" = some (some (.ref f48))) (l48 : K.lookup f48 = some ⟨oc48, od48, .func (PySem.W.fnOf "_law_right" "_law_right" (defArgs (topS 73)) (defBody (topS 73)) (defScope (topS 73)) .none kV48 dc48 pm48 an48 cd48 ct48), sl48⟩) (c48 : PySem.W.codeIn K cd48 "_law_right" = true) (k48 : PySem.W.keepIn K (.ref f48) = true)
    (a49 : PySem.W.nsIn K mainGlobals "law" = some (some (.ref f49))) (l49 : K.lookup f49 = some ⟨oc49, od49, .func (PySem.W.fnOf "law" "law" (defArgs (topS 74)) (defBody (topS 74)) (defScope (topS 74)) .none kV49 dc49 pm49 an49 cd49 ct49), sl49⟩) (c49 : PySem.W.codeIn K cd49 "law" = true) (k49 : PySem.W.keepIn K (.ref f49) = true)
    (z50 : PySem.W.nsIn K mainGlobals "len" = some none)
    (z51 : PySem.W.nsIn K mainGlobals "all" = some none)
    (z52 : PySem.W.nsIn K mainGlobals "isinstance" = some none)
    (z53 : PySem.W.nsIn K mainGlobals "sum" = some none)
    (z54 : PySem.W.nsIn K mainGlobals "abs" = some none)
    (z55 : PySem.W.nsIn K mainGlobals "max" = some none)
    (z56 : PySem.W.nsIn K mainGlobals "min" = some none)
    (z57 : PySem.W.nsIn K mainGlobals "ord" = some none)
    (z58 : PySem.W.nsIn K mainGlobals "repr" = some none)
    (z59 : PySem.W.nsIn K mainGlobals "int" = some none)
    (z60 : PySem.W.nsIn K mainGlobals "str" = some none)
    (z61 : PySem.W.nsIn K mainGlobals "tuple" = some none)
    (z62 : PySem.W.nsIn K mainGlobals "list" = some none)
    (z63 : PySem.W.nsIn K mainGlobals "dict" = some none)
    (z64 : PySem.W.nsIn K mainGlobals "range" = some none)
    (z65 : PySem.W.nsIn K mainGlobals "zip" = some none)
    (z66 : PySem.W.nsIn K mainGlobals "enumerate" = some none)
    (z67 : PySem.W.nsIn K mainGlobals "FEED" = some (some (.str x67 t67))) (e67 : x67 = ⟨([10] : List Nat).toArray⟩)
    (z68 : PySem.W.nsIn K mainGlobals "CELLS" = some (some (.str x68 t68))) (e68 : x68 = ⟨([48, 49, 50, 51, 52, 53, 54, 55, 56, 57, 97, 98, 99, 100, 101, 102] : List Nat).toArray⟩)
    (z69 : PySem.W.nsIn K mainGlobals "LOW_SIGNS" = some (some (.str x69 t69))) (e69 : x69 = ⟨([32, 33, 34, 35, 36] : List Nat).toArray⟩)
    (z70 : PySem.W.nsIn K mainGlobals "HIGH_SIGNS" = some (some (.str x70 t70))) (e70 : x70 = ⟨([38, 39, 40, 41, 42, 43, 44, 45, 46, 47, 48, 49, 50, 51, 52, 53, 54, 55, 56, 57, 58, 59, 60, 61, 62, 63, 64, 65, 66, 67, 68, 69, 70, 71, 72, 73, 74, 75, 76, 77, 78, 79, 80, 81, 82, 83, 84, 85, 86, 87, 88, 89, 90, 91, 92, 93, 94, 95, 96, 97, 98, 99, 100, 101, 102, 103, 104, 105, 106, 107, 108, 109, 110, 111, 112, 113, 114, 115, 116, 117, 118, 119, 120, 121, 122, 123, 124, 125, 126] : List Nat).toArray⟩)
    (z71 : PySem.W.nsIn K mainGlobals "CELLS_A_PAGE" = some (some (.int 256 t71)))
    (z72 : PySem.W.nsIn K mainGlobals "MOST_PAGE_SIGNS" = some (some (.int 113 t72)))
    (z73 : PySem.W.nsIn K mainGlobals "EMPTY" = some (some (.str x73 t73))) (e73 : x73 = ⟨([101, 109, 112, 116, 121] : List Nat).toArray⟩)
    (z74 : PySem.W.nsIn K mainGlobals "WHOLE" = some (some (.str x74 t74))) (e74 : x74 = ⟨([119, 104, 111, 108, 101] : List Nat).toArray⟩)
    (z75 : PySem.W.nsIn K mainGlobals "MENDED" = some (some (.str x75 t75))) (e75 : x75 = ⟨([109, 101, 110, 100, 101, 100] : List Nat).toArray⟩)
    (z76 : PySem.W.nsIn K mainGlobals "TORN" = some (some (.str x76 t76))) (e76 : x76 = ⟨([116, 111, 114, 110] : List Nat).toArray⟩)
    (z77 : PySem.W.nsIn K mainGlobals "TOP" = some (some (.int 15 t77)))
    (z78 : PySem.W.nsIn K mainGlobals "SIXTEEN" = some (some (.int 16 t78)))
    (z79 : PySem.W.nsIn K mainGlobals "PAIR" = some (some (.int 2 t79)))
    (z80 : PySem.W.nsIn K mainGlobals "FALLEN" = some (some (.str x80 t80))) (e80 : x80 = ⟨([102] : List Nat).toArray⟩)
    (z81 : PySem.W.nsIn K mainGlobals "CELLS_OF_TEXT" = some (some (.int 226 t81)))
    (z82 : PySem.W.nsIn K mainGlobals "FEED_NUMBER" = some (some (.int 10 t82)))
    (z83 : PySem.W.nsIn K mainGlobals "LOW_NUMBER" = some (some (.int 32 t83)))
    (z84 : PySem.W.nsIn K mainGlobals "HIGH_NUMBER" = some (some (.int 38 t84)))
    (z85 : PySem.W.nsIn K mainGlobals "WIDTHS" = some (some (.ref f85))) (l85 : K.lookup f85 = some ⟨.type "tuple", od85, .seq #[.int 3 t85_0, .int 5 t85_1, .int 7 t85_2] u85, sl85⟩) :
    ∃ fd : FuncData, (∀ (s : Shared) (v : Value), BindsTo s fd ⟨[v], []⟩ [("script", v)]) ∧ ∀ base : Heap, K.In base → base.Ns mainGlobals mg → FnG l.prog w K mg base CX0 9 fa fd ["script"] (SpD K F_law) := by
  have e : fa = f49 := by
    have z := Option.some.inj (hfa.symm.trans (PySem.W.mg_of X G a49))
    injection z
  rw [e]
  let T : Tx K mg := {
  a_are_cells := f1
  d_are_cells := PySem.W.fnOf "are_cells" "are_cells" (defArgs (topS 7)) (defBody (topS 7)) (defScope (topS 7)) .none kV1 dc1 pm1 an1 cd1 ct1
  F_are_cells := fun_mk (st := topS 7) l1 c1 k1
  m_are_cells := PySem.W.mg_of X G a1
  b_are_cells := (fun_mk (st := topS 7) l1 c1 k1).binds (ps := ["value", "low", "high"]) fun _ _ _ _ _ _ us hl => match us, hl with | [_, _, _], _ => rfl
  a_is_page := f2
  d_is_page := PySem.W.fnOf "is_page" "is_page" (defArgs (topS 8)) (defBody (topS 8)) (defScope (topS 8)) .none kV2 dc2 pm2 an2 cd2 ct2
  F_is_page := fun_mk (st := topS 8) l2 c2 k2
  m_is_page := PySem.W.mg_of X G a2
  b_is_page := (fun_mk (st := topS 8) l2 c2 k2).binds (ps := ["value"]) fun _ _ _ _ _ _ us hl => match us, hl with | [_], _ => rfl
  a_is_page_text := f3
  d_is_page_text := PySem.W.fnOf "is_page_text" "is_page_text" (defArgs (topS 9)) (defBody (topS 9)) (defScope (topS 9)) .none kV3 dc3 pm3 an3 cd3 ct3
  F_is_page_text := fun_mk (st := topS 9) l3 c3 k3
  m_is_page_text := PySem.W.mg_of X G a3
  b_is_page_text := (fun_mk (st := topS 9) l3 c3 k3).binds (ps := ["value"]) fun _ _ _ _ _ _ us hl => match us, hl with | [_], _ => rfl
  a_cell_number := f4
  d_cell_number := PySem.W.fnOf "cell_number" "cell_number" (defArgs (topS 28)) (defBody (topS 28)) (defScope (topS 28)) .none kV4 dc4 pm4 an4 cd4 ct4
  F_cell_number := fun_mk (st := topS 28) l4 c4 k4
  m_cell_number := PySem.W.mg_of X G a4
  b_cell_number := (fun_mk (st := topS 28) l4 c4 k4).binds (ps := ["cell"]) fun _ _ _ _ _ _ us hl => match us, hl with | [_], _ => rfl
  a_number_in_cells := f5
  d_number_in_cells := PySem.W.fnOf "number_in_cells" "number_in_cells" (defArgs (topS 29)) (defBody (topS 29)) (defScope (topS 29)) .none kV5 dc5 pm5 an5 cd5 ct5
  F_number_in_cells := fun_mk (st := topS 29) l5 c5 k5
  m_number_in_cells := PySem.W.mg_of X G a5
  b_number_in_cells := (fun_mk (st := topS 29) l5 c5 k5).binds (ps := ["cells"]) fun _ _ _ _ _ _ us hl => match us, hl with | [_], _ => rfl
  a_cells_of_number := f6
  d_cells_of_number := PySem.W.fnOf "cells_of_number" "cells_of_number" (defArgs (topS 30)) (defBody (topS 30)) (defScope (topS 30)) .none kV6 dc6 pm6 an6 cd6 ct6
  F_cells_of_number := fun_mk (st := topS 30) l6 c6 k6
  m_cells_of_number := PySem.W.mg_of X G a6
  b_cells_of_number := (fun_mk (st := topS 30) l6 c6 k6).binds (ps := ["number", "width"]) fun _ _ _ _ _ _ us hl => match us, hl with | [_, _], _ => rfl
  a_contrary := f7
  d_contrary := PySem.W.fnOf "contrary" "contrary" (defArgs (topS 31)) (defBody (topS 31)) (defScope (topS 31)) .none kV7 dc7 pm7 an7 cd7 ct7
  F_contrary := fun_mk (st := topS 31) l7 c7 k7
  m_contrary := PySem.W.mg_of X G a7
  b_contrary := (fun_mk (st := topS 31) l7 c7 k7).binds (ps := ["cells"]) fun _ _ _ _ _ _ us hl => match us, hl with | [_], _ => rfl
  a_sums_of := f8
  d_sums_of := PySem.W.fnOf "sums_of" "sums_of" (defArgs (topS 32)) (defBody (topS 32)) (defScope (topS 32)) .none kV8 dc8 pm8 an8 cd8 ct8
  F_sums_of := fun_mk (st := topS 32) l8 c8 k8
  m_sums_of := PySem.W.mg_of X G a8
  b_sums_of := (fun_mk (st := topS 32) l8 c8 k8).binds (ps := ["cells"]) fun _ _ _ _ _ _ us hl => match us, hl with | [_], _ => rfl
  a_sum_cells := f9
  d_sum_cells := PySem.W.fnOf "sum_cells" "sum_cells" (defArgs (topS 33)) (defBody (topS 33)) (defScope (topS 33)) .none kV9 dc9 pm9 an9 cd9 ct9
  F_sum_cells := fun_mk (st := topS 33) l9 c9 k9
  m_sum_cells := PySem.W.mg_of X G a9
  b_sum_cells := (fun_mk (st := topS 33) l9 c9 k9).binds (ps := ["three"]) fun _ _ _ _ _ _ us hl => match us, hl with | [_], _ => rfl
  a_sign_number := f10
  d_sign_number := PySem.W.fnOf "sign_number" "sign_number" (defArgs (topS 34)) (defBody (topS 34)) (defScope (topS 34)) .none kV10 dc10 pm10 an10 cd10 ct10
  F_sign_number := fun_mk (st := topS 34) l10 c10 k10
  m_sign_number := PySem.W.mg_of X G a10
  b_sign_number := (fun_mk (st := topS 34) l10 c10 k10).binds (ps := ["sign"]) fun _ _ _ _ _ _ us hl => match us, hl with | [_], _ => rfl
  a_sign_of := f11
  d_sign_of := PySem.W.fnOf "sign_of" "sign_of" (defArgs (topS 35)) (defBody (topS 35)) (defScope (topS 35)) .none kV11 dc11 pm11 an11 cd11 ct11
  F_sign_of := fun_mk (st := topS 35) l11 c11 k11
  m_sign_of := PySem.W.mg_of X G a11
  b_sign_of := (fun_mk (st := topS 35) l11 c11 k11).binds (ps := ["number"]) fun _ _ _ _ _ _ us hl => match us, hl with | [_], _ => rfl
  a_text_cells := f12
  d_text_cells := PySem.W.fnOf "text_cells" "text_cells" (defArgs (topS 36)) (defBody (topS 36)) (defScope (topS 36)) .none kV12 dc12 pm12 an12 cd12 ct12
  F_text_cells := fun_mk (st := topS 36) l12 c12 k12
  m_text_cells := PySem.W.mg_of X G a12
  b_text_cells := (fun_mk (st := topS 36) l12 c12 k12).binds (ps := ["text"]) fun _ _ _ _ _ _ us hl => match us, hl with | [_], _ => rfl
  a_signs_in := f13
  d_signs_in := PySem.W.fnOf "signs_in" "signs_in" (defArgs (topS 37)) (defBody (topS 37)) (defScope (topS 37)) .none kV13 dc13 pm13 an13 cd13 ct13
  F_signs_in := fun_mk (st := topS 37) l13 c13 k13
  m_signs_in := PySem.W.mg_of X G a13
  b_signs_in := (fun_mk (st := topS 37) l13 c13 k13).binds (ps := ["cells"]) fun _ _ _ _ _ _ us hl => match us, hl with | [_], _ => rfl
  a_sealed_page := f14
  d_sealed_page := PySem.W.fnOf "sealed_page" "sealed_page" (defArgs (topS 38)) (defBody (topS 38)) (defScope (topS 38)) .none kV14 dc14 pm14 an14 cd14 ct14
  F_sealed_page := fun_mk (st := topS 38) l14 c14 k14
  m_sealed_page := PySem.W.mg_of X G a14
  b_sealed_page := (fun_mk (st := topS 38) l14 c14 k14).binds (ps := ["text"]) fun _ _ _ _ _ _ us hl => match us, hl with | [_], _ => rfl
  a_sealed := f15
  d_sealed := PySem.W.fnOf "sealed" "sealed" (defArgs (topS 39)) (defBody (topS 39)) (defScope (topS 39)) .none kV15 dc15 pm15 an15 cd15 ct15
  F_sealed := fun_mk (st := topS 39) l15 c15 k15
  m_sealed := PySem.W.mg_of X G a15
  b_sealed := (fun_mk (st := topS 39) l15 c15 k15).binds (ps := ["text"]) fun _ _ _ _ _ _ us hl => match us, hl with | [_], _ => rfl
  a_told_sums := f16
  d_told_sums := PySem.W.fnOf "told_sums" "told_sums" (defArgs (topS 40)) (defBody (topS 40)) (defScope (topS 40)) .none kV16 dc16 pm16 an16 cd16 ct16
  F_told_sums := fun_mk (st := topS 40) l16 c16 k16
  m_told_sums := PySem.W.mg_of X G a16
  b_told_sums := (fun_mk (st := topS 40) l16 c16 k16).binds (ps := ["cells"]) fun _ _ _ _ _ _ us hl => match us, hl with | [_], _ => rfl
  a_fallen_in_text := f17
  d_fallen_in_text := PySem.W.fnOf "fallen_in_text" "fallen_in_text" (defArgs (topS 41)) (defBody (topS 41)) (defScope (topS 41)) .none kV17 dc17 pm17 an17 cd17 ct17
  F_fallen_in_text := fun_mk (st := topS 41) l17 c17 k17
  m_fallen_in_text := PySem.W.mg_of X G a17
  b_fallen_in_text := (fun_mk (st := topS 41) l17 c17 k17).binds (ps := ["cells"]) fun _ _ _ _ _ _ us hl => match us, hl with | [_], _ => rfl
  a_fallen_in_sums := f18
  d_fallen_in_sums := PySem.W.fnOf "fallen_in_sums" "fallen_in_sums" (defArgs (topS 42)) (defBody (topS 42)) (defScope (topS 42)) .none kV18 dc18 pm18 an18 cd18 ct18
  F_fallen_in_sums := fun_mk (st := topS 42) l18 c18 k18
  m_fallen_in_sums := PySem.W.mg_of X G a18
  b_fallen_in_sums := (fun_mk (st := topS 42) l18 c18 k18).binds (ps := ["cells"]) fun _ _ _ _ _ _ us hl => match us, hl with | [_], _ => rfl
  a_opened := f19
  d_opened := PySem.W.fnOf "opened" "opened" (defArgs (topS 43)) (defBody (topS 43)) (defScope (topS 43)) .none kV19 dc19 pm19 an19 cd19 ct19
  F_opened := fun_mk (st := topS 43) l19 c19 k19
  m_opened := PySem.W.mg_of X G a19
  b_opened := (fun_mk (st := topS 43) l19 c19 k19).binds (ps := ["cells"]) fun _ _ _ _ _ _ us hl => match us, hl with | [_], _ => rfl
  a__law_pot := f20
  d__law_pot := PySem.W.fnOf "_law_pot" "_law_pot" (defArgs (topS 45)) (defBody (topS 45)) (defScope (topS 45)) .none kV20 dc20 pm20 an20 cd20 ct20
  F__law_pot := fun_mk (st := topS 45) l20 c20 k20
  m__law_pot := PySem.W.mg_of X G a20
  b__law_pot := (fun_mk (st := topS 45) l20 c20 k20).binds (ps := ["script", "place"]) fun _ _ _ _ _ _ us hl => match us, hl with | [_, _], _ => rfl
  a__law_take := f21
  d__law_take := PySem.W.fnOf "_law_take" "_law_take" (defArgs (topS 46)) (defBody (topS 46)) (defScope (topS 46)) .none kV21 dc21 pm21 an21 cd21 ct21
  F__law_take := fun_mk (st := topS 46) l21 c21 k21
  m__law_take := PySem.W.mg_of X G a21
  b__law_take := (fun_mk (st := topS 46) l21 c21 k21).binds (ps := ["pot", "upto"]) fun _ _ _ _ _ _ us hl => match us, hl with | [_, _], _ => rfl
  a__law_of := f22
  d__law_of := PySem.W.fnOf "_law_of" "_law_of" (defArgs (topS 47)) (defBody (topS 47)) (defScope (topS 47)) .none kV22 dc22 pm22 an22 cd22 ct22
  F__law_of := fun_mk (st := topS 47) l22 c22 k22
  m__law_of := PySem.W.mg_of X G a22
  b__law_of := (fun_mk (st := topS 47) l22 c22 k22).binds (ps := ["pot", "some"]) fun _ _ _ _ _ _ us hl => match us, hl with | [_, _], _ => rfl
  a__law_cells := f23
  d__law_cells := PySem.W.fnOf "_law_cells" "_law_cells" (defArgs (topS 48)) (defBody (topS 48)) (defScope (topS 48)) .none kV23 dc23 pm23 an23 cd23 ct23
  F__law_cells := fun_mk (st := topS 48) l23 c23 k23
  m__law_cells := PySem.W.mg_of X G a23
  b__law_cells := (fun_mk (st := topS 48) l23 c23 k23).binds (ps := ["script", "most"]) fun _ _ _ _ _ _ us hl => match us, hl with | [_, _], _ => rfl
  a__law_chip_torn := f24
  d__law_chip_torn := PySem.W.fnOf "_law_chip_torn" "_law_chip_torn" (defArgs (topS 49)) (defBody (topS 49)) (defScope (topS 49)) .none kV24 dc24 pm24 an24 cd24 ct24
  F__law_chip_torn := fun_mk (st := topS 49) l24 c24 k24
  m__law_chip_torn := PySem.W.mg_of X G a24
  b__law_chip_torn := (fun_mk (st := topS 49) l24 c24 k24).binds (ps := ["cells", "pattern"]) fun _ _ _ _ _ _ us hl => match us, hl with | [_, _], _ => rfl
  a__law_chip_pattern := f25
  d__law_chip_pattern := PySem.W.fnOf "_law_chip_pattern" "_law_chip_pattern" (defArgs (topS 50)) (defBody (topS 50)) (defScope (topS 50)) .none kV25 dc25 pm25 an25 cd25 ct25
  F__law_chip_pattern := fun_mk (st := topS 50) l25 c25 k25
  m__law_chip_pattern := PySem.W.mg_of X G a25
  b__law_chip_pattern := (fun_mk (st := topS 50) l25 c25 k25).binds (ps := ["pot"]) fun _ _ _ _ _ _ us hl => match us, hl with | [_], _ => rfl
  a__law_code_worth := f26
  d__law_code_worth := PySem.W.fnOf "_law_code_worth" "_law_code_worth" (defArgs (topS 51)) (defBody (topS 51)) (defScope (topS 51)) .none kV26 dc26 pm26 an26 cd26 ct26
  F__law_code_worth := fun_mk (st := topS 51) l26 c26 k26
  m__law_code_worth := PySem.W.mg_of X G a26
  b__law_code_worth := (fun_mk (st := topS 51) l26 c26 k26).binds (ps := ["sign"]) fun _ _ _ _ _ _ us hl => match us, hl with | [_], _ => rfl
  a__law_code_sums := f27
  d__law_code_sums := PySem.W.fnOf "_law_code_sums" "_law_code_sums" (defArgs (topS 52)) (defBody (topS 52)) (defScope (topS 52)) .none kV27 dc27 pm27 an27 cd27 ct27
  F__law_code_sums := fun_mk (st := topS 52) l27 c27 k27
  m__law_code_sums := PySem.W.mg_of X G a27
  b__law_code_sums := (fun_mk (st := topS 52) l27 c27 k27).binds (ps := ["cells"]) fun _ _ _ _ _ _ us hl => match us, hl with | [_], _ => rfl
  a__law_code_figures := f28
  d__law_code_figures := PySem.W.fnOf "_law_code_figures" "_law_code_figures" (defArgs (topS 53)) (defBody (topS 53)) (defScope (topS 53)) .none kV28 dc28 pm28 an28 cd28 ct28
  F__law_code_figures := fun_mk (st := topS 53) l28 c28 k28
  m__law_code_figures := PySem.W.mg_of X G a28
  b__law_code_figures := (fun_mk (st := topS 53) l28 c28 k28).binds (ps := ["number", "many"]) fun _ _ _ _ _ _ us hl => match us, hl with | [_, _], _ => rfl
  a__law_code_number := f29
  d__law_code_number := PySem.W.fnOf "_law_code_number" "_law_code_number" (defArgs (topS 54)) (defBody (topS 54)) (defScope (topS 54)) .none kV29 dc29 pm29 an29 cd29 ct29
  F__law_code_number := fun_mk (st := topS 54) l29 c29 k29
  m__law_code_number := PySem.W.mg_of X G a29
  b__law_code_number := (fun_mk (st := topS 54) l29 c29 k29).binds (ps := ["cells"]) fun _ _ _ _ _ _ us hl => match us, hl with | [_], _ => rfl
  a__law_code_turned := f30
  d__law_code_turned := PySem.W.fnOf "_law_code_turned" "_law_code_turned" (defArgs (topS 55)) (defBody (topS 55)) (defScope (topS 55)) .none kV30 dc30 pm30 an30 cd30 ct30
  F__law_code_turned := fun_mk (st := topS 55) l30 c30 k30
  m__law_code_turned := PySem.W.mg_of X G a30
  b__law_code_turned := (fun_mk (st := topS 55) l30 c30 k30).binds (ps := ["cells"]) fun _ _ _ _ _ _ us hl => match us, hl with | [_], _ => rfl
  a__law_code_tail := f31
  d__law_code_tail := PySem.W.fnOf "_law_code_tail" "_law_code_tail" (defArgs (topS 56)) (defBody (topS 56)) (defScope (topS 56)) .none kV31 dc31 pm31 an31 cd31 ct31
  F__law_code_tail := fun_mk (st := topS 56) l31 c31 k31
  m__law_code_tail := PySem.W.mg_of X G a31
  b__law_code_tail := (fun_mk (st := topS 56) l31 c31 k31).binds (ps := ["cells"]) fun _ _ _ _ _ _ us hl => match us, hl with | [_], _ => rfl
  a__law_code_signs := f32
  d__law_code_signs := PySem.W.fnOf "_law_code_signs" "_law_code_signs" (defArgs (topS 57)) (defBody (topS 57)) (defScope (topS 57)) .none kV32 dc32 pm32 an32 cd32 ct32
  F__law_code_signs := fun_mk (st := topS 57) l32 c32 k32
  m__law_code_signs := PySem.W.mg_of X G a32
  b__law_code_signs := (fun_mk (st := topS 57) l32 c32 k32).binds (ps := []) fun _ _ _ _ _ _ us hl => match us, hl with | [], _ => rfl
  a__law_code_sealed := f33
  d__law_code_sealed := PySem.W.fnOf "_law_code_sealed" "_law_code_sealed" (defArgs (topS 58)) (defBody (topS 58)) (defScope (topS 58)) .none kV33 dc33 pm33 an33 cd33 ct33
  F__law_code_sealed := fun_mk (st := topS 58) l33 c33 k33
  m__law_code_sealed := PySem.W.mg_of X G a33
  b__law_code_sealed := (fun_mk (st := topS 58) l33 c33 k33).binds (ps := ["text"]) fun _ _ _ _ _ _ us hl => match us, hl with | [_], _ => rfl
  a__law_code_by_numbers := f34
  d__law_code_by_numbers := PySem.W.fnOf "_law_code_by_numbers" "_law_code_by_numbers" (defArgs (topS 59)) (defBody (topS 59)) (defScope (topS 59)) .none kV34 dc34 pm34 an34 cd34 ct34
  F__law_code_by_numbers := fun_mk (st := topS 59) l34 c34 k34
  m__law_code_by_numbers := PySem.W.mg_of X G a34
  b__law_code_by_numbers := (fun_mk (st := topS 59) l34 c34 k34).binds (ps := []) fun _ _ _ _ _ _ us hl => match us, hl with | [], _ => rfl
  a__law_code_text := f35
  d__law_code_text := PySem.W.fnOf "_law_code_text" "_law_code_text" (defArgs (topS 60)) (defBody (topS 60)) (defScope (topS 60)) .none kV35 dc35 pm35 an35 cd35 ct35
  F__law_code_text := fun_mk (st := topS 60) l35 c35 k35
  m__law_code_text := PySem.W.mg_of X G a35
  b__law_code_text := (fun_mk (st := topS 60) l35 c35 k35).binds (ps := ["head"]) fun _ _ _ _ _ _ us hl => match us, hl with | [_], _ => rfl
  a__law_code_unlike := f36
  d__law_code_unlike := PySem.W.fnOf "_law_code_unlike" "_law_code_unlike" (defArgs (topS 61)) (defBody (topS 61)) (defScope (topS 61)) .none kV36 dc36 pm36 an36 cd36 ct36
  F__law_code_unlike := fun_mk (st := topS 61) l36 c36 k36
  m__law_code_unlike := PySem.W.mg_of X G a36
  b__law_code_unlike := (fun_mk (st := topS 61) l36 c36 k36).binds (ps := ["one", "other"]) fun _ _ _ _ _ _ us hl => match us, hl with | [_, _], _ => rfl
  a__law_code_fallen := f37
  d__law_code_fallen := PySem.W.fnOf "_law_code_fallen" "_law_code_fallen" (defArgs (topS 62)) (defBody (topS 62)) (defScope (topS 62)) .none kV37 dc37 pm37 an37 cd37 ct37
  F__law_code_fallen := fun_mk (st := topS 62) l37 c37 k37
  m__law_code_fallen := PySem.W.mg_of X G a37
  b__law_code_fallen := (fun_mk (st := topS 62) l37 c37 k37).binds (ps := ["cells", "page"]) fun _ _ _ _ _ _ us hl => match us, hl with | [_, _], _ => rfl
  a__law_code_told := f38
  d__law_code_told := PySem.W.fnOf "_law_code_told" "_law_code_told" (defArgs (topS 63)) (defBody (topS 63)) (defScope (topS 63)) .none kV38 dc38 pm38 an38 cd38 ct38
  F__law_code_told := fun_mk (st := topS 63) l38 c38 k38
  m__law_code_told := PySem.W.mg_of X G a38
  b__law_code_told := (fun_mk (st := topS 63) l38 c38 k38).binds (ps := ["cells"]) fun _ _ _ _ _ _ us hl => match us, hl with | [_], _ => rfl
  a__law_code_lifted := f39
  d__law_code_lifted := PySem.W.fnOf "_law_code_lifted" "_law_code_lifted" (defArgs (topS 64)) (defBody (topS 64)) (defScope (topS 64)) .none kV39 dc39 pm39 an39 cd39 ct39
  F__law_code_lifted := fun_mk (st := topS 64) l39 c39 k39
  m__law_code_lifted := PySem.W.mg_of X G a39
  b__law_code_lifted := (fun_mk (st := topS 64) l39 c39 k39).binds (ps := ["cells"]) fun _ _ _ _ _ _ us hl => match us, hl with | [_], _ => rfl
  a__law_code_opened := f40
  d__law_code_opened := PySem.W.fnOf "_law_code_opened" "_law_code_opened" (defArgs (topS 65)) (defBody (topS 65)) (defScope (topS 65)) .none kV40 dc40 pm40 an40 cd40 ct40
  F__law_code_opened := fun_mk (st := topS 65) l40 c40 k40
  m__law_code_opened := PySem.W.mg_of X G a40
  b__law_code_opened := (fun_mk (st := topS 65) l40 c40 k40).binds (ps := ["cells"]) fun _ _ _ _ _ _ us hl => match us, hl with | [_], _ => rfl
  a__law_text_drawn := f41
  d__law_text_drawn := PySem.W.fnOf "_law_text_drawn" "_law_text_drawn" (defArgs (topS 66)) (defBody (topS 66)) (defScope (topS 66)) .none kV41 dc41 pm41 an41 cd41 ct41
  F__law_text_drawn := fun_mk (st := topS 66) l41 c41 k41
  m__law_text_drawn := PySem.W.mg_of X G a41
  b__law_text_drawn := (fun_mk (st := topS 66) l41 c41 k41).binds (ps := ["pot"]) fun _ _ _ _ _ _ us hl => match us, hl with | [_], _ => rfl
  a__law_raised := f42
  d__law_raised := PySem.W.fnOf "_law_raised" "_law_raised" (defArgs (topS 67)) (defBody (topS 67)) (defScope (topS 67)) .none kV42 dc42 pm42 an42 cd42 ct42
  F__law_raised := fun_mk (st := topS 67) l42 c42 k42
  m__law_raised := PySem.W.mg_of X G a42
  b__law_raised := (fun_mk (st := topS 67) l42 c42 k42).binds (ps := ["pot", "cells"]) fun _ _ _ _ _ _ us hl => match us, hl with | [_, _], _ => rfl
  a__law_fallen := f43
  d__law_fallen := PySem.W.fnOf "_law_fallen" "_law_fallen" (defArgs (topS 68)) (defBody (topS 68)) (defScope (topS 68)) .none kV43 dc43 pm43 an43 cd43 ct43
  F__law_fallen := fun_mk (st := topS 68) l43 c43 k43
  m__law_fallen := PySem.W.mg_of X G a43
  b__law_fallen := (fun_mk (st := topS 68) l43 c43 k43).binds (ps := ["pot", "cells"]) fun _ _ _ _ _ _ us hl => match us, hl with | [_, _], _ => rfl
  a__law_evened := f44
  d__law_evened := PySem.W.fnOf "_law_evened" "_law_evened" (defArgs (topS 69)) (defBody (topS 69)) (defScope (topS 69)) .none kV44 dc44 pm44 an44 cd44 ct44
  F__law_evened := fun_mk (st := topS 69) l44 c44 k44
  m__law_evened := PySem.W.mg_of X G a44
  b__law_evened := (fun_mk (st := topS 69) l44 c44 k44).binds (ps := ["pot", "page"]) fun _ _ _ _ _ _ us hl => match us, hl with | [_, _], _ => rfl
  a__law_is_told := f45
  d__law_is_told := PySem.W.fnOf "_law_is_told" "_law_is_told" (defArgs (topS 70)) (defBody (topS 70)) (defScope (topS 70)) .none kV45 dc45 pm45 an45 cd45 ct45
  F__law_is_told := fun_mk (st := topS 70) l45 c45 k45
  m__law_is_told := PySem.W.mg_of X G a45
  b__law_is_told := (fun_mk (st := topS 70) l45 c45 k45).binds (ps := ["text", "cells"]) fun _ _ _ _ _ _ us hl => match us, hl with | [_, _], _ => rfl
  a__law_near_text := f46
  d__law_near_text := PySem.W.fnOf "_law_near_text" "_law_near_text" (defArgs (topS 71)) (defBody (topS 71)) (defScope (topS 71)) .none kV46 dc46 pm46 an46 cd46 ct46
  F__law_near_text := fun_mk (st := topS 71) l46 c46 k46
  m__law_near_text := PySem.W.mg_of X G a46
  b__law_near_text := (fun_mk (st := topS 71) l46 c46 k46).binds (ps := ["pot", "text"]) fun _ _ _ _ _ _ us hl => match us, hl with | [_, _], _ => rfl
  a__law_many_greater := f47
  d__law_many_greater := PySem.W.fnOf "_law_many_greater" "_law_many_greater" (defArgs (topS 72)) (defBody (topS 72)) (defScope (topS 72)) .none kV47 dc47 pm47 an47 cd47 ct47
  F__law_many_greater := fun_mk (st := topS 72) l47 c47 k47
  m__law_many_greater := PySem.W.mg_of X G a47
  b__law_many_greater := (fun_mk (st := topS 72) l47 c47 k47).binds (ps := ["one", "other"]) fun _ _ _ _ _ _ us hl => match us, hl with | [_, _], _ => rfl
  a__law_right := f48
  d__law_right := PySem.W.fnOf "_law_right" "_law_right" (defArgs (topS 73)) (defBody (topS 73)) (defScope (topS 73)) .none kV48 dc48 pm48 an48 cd48 ct48
  F__law_right := fun_mk (st := topS 73) l48 c48 k48
  m__law_right := PySem.W.mg_of X G a48
  b__law_right := (fun_mk (st := topS 73) l48 c48 k48).binds (ps := ["pot"]) fun _ _ _ _ _ _ us hl => match us, hl with | [_], _ => rfl
  a_law := f49
  d_law := PySem.W.fnOf "law" "law" (defArgs (topS 74)) (defBody (topS 74)) (defScope (topS 74)) .none kV49 dc49 pm49 an49 cd49 ct49
  F_law := fun_mk (st := topS 74) l49 c49 k49
  m_law := PySem.W.mg_of X G a49
  b_law := (fun_mk (st := topS 74) l49 c49 k49).binds (ps := ["script"]) fun _ _ _ _ _ _ us hl => match us, hl with | [_], _ => rfl
  m_len := PySem.W.mg_none_of X G z50
  m_all := PySem.W.mg_none_of X G z51
  m_isinstance := PySem.W.mg_none_of X G z52
  m_sum := PySem.W.mg_none_of X G z53
  m_abs := PySem.W.mg_none_of X G z54
  m_max := PySem.W.mg_none_of X G z55
  m_min := PySem.W.mg_none_of X G z56
  m_ord := PySem.W.mg_none_of X G z57
  m_repr := PySem.W.mg_none_of X G z58
  m_int := PySem.W.mg_none_of X G z59
  m_str := PySem.W.mg_none_of X G z60
  m_tuple := PySem.W.mg_none_of X G z61
  m_list := PySem.W.mg_none_of X G z62
  m_dict := PySem.W.mg_none_of X G z63
  m_range := PySem.W.mg_none_of X G z64
  m_zip := PySem.W.mg_none_of X G z65
  m_enumerate := PySem.W.mg_none_of X G z66
  c_FEED := ⟨t67, by rw [← e67]; exact PySem.W.mg_of X G z67⟩
  c_CELLS := ⟨t68, by rw [← e68]; exact PySem.W.mg_of X G z68⟩
  c_LOW_SIGNS := ⟨t69, by rw [← e69]; exact PySem.W.mg_of X G z69⟩
  c_HIGH_SIGNS := ⟨t70, by rw [← e70]; exact PySem.W.mg_of X G z70⟩
  c_CELLS_A_PAGE := ⟨t71, PySem.W.mg_of X G z71⟩
  c_MOST_PAGE_SIGNS := ⟨t72, PySem.W.mg_of X G z72⟩
  c_EMPTY := ⟨t73, by rw [← e73]; exact PySem.W.mg_of X G z73⟩
  c_WHOLE := ⟨t74, by rw [← e74]; exact PySem.W.mg_of X G z74⟩
  c_MENDED := ⟨t75, by rw [← e75]; exact PySem.W.mg_of X G z75⟩
  c_TORN := ⟨t76, by rw [← e76]; exact PySem.W.mg_of X G z76⟩
  c_TOP := ⟨t77, PySem.W.mg_of X G z77⟩
  c_SIXTEEN := ⟨t78, PySem.W.mg_of X G z78⟩
  c_PAIR := ⟨t79, PySem.W.mg_of X G z79⟩
  c_FALLEN := ⟨t80, by rw [← e80]; exact PySem.W.mg_of X G z80⟩
  c_CELLS_OF_TEXT := ⟨t81, PySem.W.mg_of X G z81⟩
  c_FEED_NUMBER := ⟨t82, PySem.W.mg_of X G z82⟩
  c_LOW_NUMBER := ⟨t83, PySem.W.mg_of X G z83⟩
  c_HIGH_NUMBER := ⟨t84, PySem.W.mg_of X G z84⟩
  c_WIDTHS := ⟨f85, PySem.W.mg_of X G z85, fun G => .py (.tup (show SqT K G f85 [V.int 3, V.int 5, V.int 7] from .inr ⟨_, _, _, l85, rfl, rfl, by show 3 ≤ sizeLine; decide, .cons ⟨_, rfl⟩ (.cons ⟨_, rfl⟩ (.cons ⟨_, rfl⟩ (.nil)))⟩) (.cons (.int 3) (.cons (.int 5) (.cons (.int 7) (.nil)))))⟩ }
  exact ⟨T.d_law, fun s v => .of_eq rfl, fun base _ _ => ok_law T⟩
end K08
end W9
open PySem PySem.W PyProof.Rows
set_option maxHeartbeats 0 in
theorem PySem.Challenge.cw_wornyettold_k08_whole_torn_and_fallen_ne_holds : PySem.Challenge.rw_wornyettold_k08_whole_torn_and_fallen_ne.Holds := by
  w_on; o_law; k_head; (case hw => w_witness2)
  k_fill
  refine W9.walk_top (l := PySem.Challenge.rw_wornyettold_k08_whole_torn_and_fallen_ne) (n := 63) (k := 9) (x := "script") (F := fun w => W9.K08.F_law) rfl (by decide) rfl ⟨rfl, by decide, by decide⟩ (fun w h Y => PySem.W.kIn_of Y) ?F (fun w ns hl _ => .mk hl rfl)
  case F =>
    intro w mg fa h KX G hmg
    refine' W9.K08.all_mk KX G hmg ?a1 ?l1 ?c1 ?k1 ?a2 ?l2 ?c2 ?k2 ?a3 ?l3 ?c3 ?k3 ?a4 ?l4 ?c4 ?k4 ?a5 ?l5 ?c5 ?k5 ?a6 ?l6 ?c6 ?k6 ?a7 ?l7 ?c7 ?k7 ?a8 ?l8 ?c8 ?k8 ?a9 ?l9 ?c9 ?k9 ?a10 ?l10 ?c10 ?k10 ?a11 ?l11 ?c11 ?k11 ?a12 ?l12 ?c12 ?k12 ?a13 ?l13 ?c13 ?k13 ?a14 ?l14 ?c14 ?k14 ?a15 ?l15 ?c15 ?k15 ?a16 ?l16 ?c16 ?k16 ?a17 ?l17 ?c17 ?k17 ?a18 ?l18 ?c18 ?k18 ?a19 ?l19 ?c19 ?k19 ?a20 ?l20 ?c20 ?k20 ?a21 ?l21 ?c21 ?k21 ?a22 ?l22 ?c22 ?k22 ?a23 ?l23 ?c23 ?k23 ?a24 ?l24 ?c24 ?k24 ?a25 ?l25 ?c25 ?k25 ?a26 ?l26 ?c26 ?k26 ?a27 ?l27 ?c27 ?k27 ?a28 ?l28 ?c28 ?k28 ?a29 ?l29 ?c29 ?k29 ?a30 ?l30 ?c30 ?k30 ?a31 ?l31 ?c31 ?k31 ?a32 ?l32 ?c32 ?k32 ?a33 ?l33 ?c33 ?k33 ?a34 ?l34 ?c34 ?k34 ?a35 ?l35 ?c35 ?k35 ?a36 ?l36 ?c36 ?k36 ?a37 ?l37 ?c37 ?k37 ?a38 ?l38 ?c38 ?k38 ?a39 ?l39 ?c39 ?k39 ?a40 ?l40 ?c40 ?k40 ?a41 ?l41 ?c41 ?k41 ?a42 ?l42 ?c42 ?k42 ?a43 ?l43 ?c43 ?k43 ?a44 ?l44 ?c44 ?k44 ?a45 ?l45 ?c45 ?k45 ?a46 ?l46 ?c46 ?k46 ?a47 ?l47 ?c47 ?k47 ?a48 ?l48 ?c48 ?k48 ?a49 ?l49 ?c49 ?k49 ?z50 ?z51 ?z52 ?z53 ?z54 ?z55 ?z56 ?z57 ?z58 ?z59 ?z60 ?z61 ?z62 ?z63 ?z64 ?z65 ?z66 ?z67 ?e67 ?z68 ?e68 ?z69 ?e69 ?z70 ?e70 ?z71 ?z72 ?z73 ?e73 ?z74 ?e74 ?z75 ?e75 ?z76 ?e76 ?z77 ?z78 ?z79 ?z80 ?e80 ?z81 ?z82 ?z83 ?z84 ?z85 ?l85
    (case a1 => k_is)
    (case l1 => k_is)
    (case c1 => k_is)
    (case k1 => k_is)
    (case a2 => k_is)
    (case l2 => k_is)
    (case c2 => k_is)
    (case k2 => k_is)
    (case a3 => k_is)
    (case l3 => k_is)
    (case c3 => k_is)
    (case k3 => k_is)
    (case a4 => k_is)
    (case l4 => k_is)
    (case c4 => k_is)
    (case k4 => k_is)
    (case a5 => k_is)
    (case l5 => k_is)
    (case c5 => k_is)
    (case k5 => k_is)
    (case a6 => k_is)
    (case l6 => k_is)
    (case c6 => k_is)
    (case k6 => k_is)
    (case a7 => k_is)
    (case l7 => k_is)
    (case c7 => k_is)
    (case k7 => k_is)
    (case a8 => k_is)
    (case l8 => k_is)
    (case c8 => k_is)
    (case k8 => k_is)
    (case a9 => k_is)
    (case l9 => k_is)
    (case c9 => k_is)
    (case k9 => k_is)
    (case a10 => k_is)
    (case l10 => k_is)
    (case c10 => k_is)
    (case k10 => k_is)
    (case a11 => k_is)
    (case l11 => k_is)
    (case c11 => k_is)
    (case k11 => k_is)
    (case a12 => k_is)
    (case l12 => k_is)
    (case c12 => k_is)
    (case k12 => k_is)
    (case a13 => k_is)
    (case l13 => k_is)
    (case c13 => k_is)
    (case k13 => k_is)
    (case a14 => k_is)
    (case l14 => k_is)
    (case c14 => k_is)
    (case k14 => k_is)
    (case a15 => k_is)
    (case l15 => k_is)
    (case c15 => k_is)
    (case k15 => k_is)
    (case a16 => k_is)
    (case l16 => k_is)
    (case c16 => k_is)
    (case k16 => k_is)
    (case a17 => k_is)
    (case l17 => k_is)
    (case c17 => k_is)
    (case k17 => k_is)
    (case a18 => k_is)
    (case l18 => k_is)
    (case c18 => k_is)
    (case k18 => k_is)
    (case a19 => k_is)
    (case l19 => k_is)
    (case c19 => k_is)
    (case k19 => k_is)
    (case a20 => k_is)
    (case l20 => k_is)
    (case c20 => k_is)
    (case k20 => k_is)
    (case a21 => k_is)
    (case l21 => k_is)
    (case c21 => k_is)
    (case k21 => k_is)
    (case a22 => k_is)
    (case l22 => k_is)
    (case c22 => k_is)
    (case k22 => k_is)
    (case a23 => k_is)
    (case l23 => k_is)
    (case c23 => k_is)
    (case k23 => k_is)
    (case a24 => k_is)
    (case l24 => k_is)
    (case c24 => k_is)
    (case k24 => k_is)
    (case a25 => k_is)
    (case l25 => k_is)
    (case c25 => k_is)
    (case k25 => k_is)
    (case a26 => k_is)
    (case l26 => k_is)
    (case c26 => k_is)
    (case k26 => k_is)
    (case a27 => k_is)
    (case l27 => k_is)
    (case c27 => k_is)
    (case k27 => k_is)
    (case a28 => k_is)
    (case l28 => k_is)
    (case c28 => k_is)
    (case k28 => k_is)
    (case a29 => k_is)
    (case l29 => k_is)
    (case c29 => k_is)
    (case k29 => k_is)
    (case a30 => k_is)
    (case l30 => k_is)
    (case c30 => k_is)
    (case k30 => k_is)
    (case a31 => k_is)
    (case l31 => k_is)
    (case c31 => k_is)
    (case k31 => k_is)
    (case a32 => k_is)
    (case l32 => k_is)
    (case c32 => k_is)
    (case k32 => k_is)
    (case a33 => k_is)
    (case l33 => k_is)
    (case c33 => k_is)
    (case k33 => k_is)
    (case a34 => k_is)
    (case l34 => k_is)
    (case c34 => k_is)
    (case k34 => k_is)
    (case a35 => k_is)
    (case l35 => k_is)
    (case c35 => k_is)
    (case k35 => k_is)
    (case a36 => k_is)
    (case l36 => k_is)
    (case c36 => k_is)
    (case k36 => k_is)
    (case a37 => k_is)
    (case l37 => k_is)
    (case c37 => k_is)
    (case k37 => k_is)
    (case a38 => k_is)
    (case l38 => k_is)
    (case c38 => k_is)
    (case k38 => k_is)
    (case a39 => k_is)
    (case l39 => k_is)
    (case c39 => k_is)
    (case k39 => k_is)
    (case a40 => k_is)
    (case l40 => k_is)
    (case c40 => k_is)
    (case k40 => k_is)
    (case a41 => k_is)
    (case l41 => k_is)
    (case c41 => k_is)
    (case k41 => k_is)
    (case a42 => k_is)
    (case l42 => k_is)
    (case c42 => k_is)
    (case k42 => k_is)
    (case a43 => k_is)
    (case l43 => k_is)
    (case c43 => k_is)
    (case k43 => k_is)
    (case a44 => k_is)
    (case l44 => k_is)
    (case c44 => k_is)
    (case k44 => k_is)
    (case a45 => k_is)
    (case l45 => k_is)
    (case c45 => k_is)
    (case k45 => k_is)
    (case a46 => k_is)
    (case l46 => k_is)
    (case c46 => k_is)
    (case k46 => k_is)
    (case a47 => k_is)
    (case l47 => k_is)
    (case c47 => k_is)
    (case k47 => k_is)
    (case a48 => k_is)
    (case l48 => k_is)
    (case c48 => k_is)
    (case k48 => k_is)
    (case a49 => k_is)
    (case l49 => k_is)
    (case c49 => k_is)
    (case k49 => k_is)
    (case z50 => k_is)
    (case z51 => k_is)
    (case z52 => k_is)
    (case z53 => k_is)
    (case z54 => k_is)
    (case z55 => k_is)
    (case z56 => k_is)
    (case z57 => k_is)
    (case z58 => k_is)
    (case z59 => k_is)
    (case z60 => k_is)
    (case z61 => k_is)
    (case z62 => k_is)
    (case z63 => k_is)
    (case z64 => k_is)
    (case z65 => k_is)
    (case z66 => k_is)
    (case z67 => k_is)
    (case z68 => k_is)
    (case z69 => k_is)
    (case z70 => k_is)
    (case z71 => k_is)
    (case z72 => k_is)
    (case z73 => k_is)
    (case z74 => k_is)
    (case z75 => k_is)
    (case z76 => k_is)
    (case z77 => k_is)
    (case z78 => k_is)
    (case z79 => k_is)
    (case z80 => k_is)
    (case z81 => k_is)
    (case z82 => k_is)
    (case z83 => k_is)
    (case z84 => k_is)
    (case z85 => k_is)
    (case l85 => k_is)
    (case e67 => rfl)
    (case e68 => rfl)
    (case e69 => rfl)
    (case e70 => rfl)
    (case e73 => rfl)
    (case e74 => rfl)
    (case e75 => rfl)
    (case e76 => rfl)
    (case e80 => rfl)

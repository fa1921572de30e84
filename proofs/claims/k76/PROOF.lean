import PyProof.Rows.All
import Wide.All
import OpenK.AllK
import Wide.FinOn
import HandS.ForMost
import HandS.Flow
import HandS.Style
import HandS.Star
import HandS.Zip
import HandS.NoneIn
import HandS.EndBits
import HandS.Wide
import HandS.IsInst
import HandS.Codes
import HandS.Replace
import HandS.Conv
import PyProof.ListStr
import HandS.SetTxt0
import HandS.Set
import HandS.SetFor
import HandS.Strs
import HandS.More
import PyProof.ZipIter
import HandS.StrMore
import HandS.StrSplit
import KE.KDictZip
import PyProof.Rows.ZipGen
import HandS.ExcValue
import HandS.Dict
import HandS.Text
import HandS.Deep
import KE.IntTextLaws
import PySem.Challenge.RW_wornyettold_k76_whole_sheets_and_page_te
set_option Elab.async false
set_option linter.all false
set_option maxRecDepth 100000
set_option maxHeartbeats 2000000
/-! A layer over HandS: values as plain data (PyData), objects that nobody changes apart from those that one owns. -/
namespace W9
open PySem PySem.Spec PyProof.Rows L2

/-! ### what a slot holds -/
inductive SD where
  | raw (v : V)
  | py (d : PyData)
abbrev DE := List (Option SD)
/-- what is owned: an object as it stands; a list of data -/
inductive OV where
  | ho (o : HO)
  | dl (l : List PyData)
abbrev MS := List (Addr × OV)
def ad (m : MS) : List Addr := m.map (·.1)

def Ex (H H' : Hp) : Prop := ∀ a o, H a = some o → H' a = some o
theorem Ex.refl (H : Hp) : Ex H H := fun _ _ h => h
theorem Ex.trans {H H1 H2 : Hp} (a : Ex H H1) (b : Ex H1 H2) : Ex H H2 := fun x o h => b x o (a x o h)
theorem Ex.back {H H' : Hp} (e : Ex H H') {a : Addr} (h : H' a = none) : H a = none := by
  cases q : H a with
  | none => rfl
  | some o => rw [e a o q] at h; cases h
theorem Ex.new {H : Hp} {p : Addr} {o : HO} (h : H p = none) : Ex H (upd H p o) := fun a u e => by
  rw [upd_ne (ne_of_none e h)]
  exact e
theorem Ex.both {H H' : Hp} {p : Addr} {o : HO} (e : Ex H H') : Ex (L2.upd H p o) (L2.upd H' p o) := fun a u h => by
  by_cases q : a = p
  · subst q; rw [upd_same] at h ⊢; exact h
  · rw [upd_ne q] at h ⊢; exact e a u h
theorem ex_rd {H H' : Hp} {a : Addr} {u : HO} (e : Ex H H') (h : Rd H a u) : Rd H' a u := by
  rcases h with h | ⟨o, h⟩
  · exact Or.inl (e a _ h)
  · exact Or.inr ⟨o, e a _ h⟩
section
variable {K : PySem.W.Frag} {G G' H H' : Hp}
theorem ex_l {a : Addr} {xs : List V} (e : Ex H H') (h : SqL K H a xs) : SqL K H' a xs := by
  rcases h with h | h
  · exact Or.inl (ex_rd e h)
  · exact Or.inr h
theorem ex_t {a : Addr} {xs : List V} (e : Ex H H') (h : SqT K H a xs) : SqT K H' a xs := by
  rcases h with h | h
  · exact Or.inl (ex_rd e h)
  · exact Or.inr h
mutual
theorem dp_mono (e : Ex G G') : ∀ {v : V} {d : PyData}, Dp K G v d → Dp K G' v d
  | _, _, .non => .non
  | _, _, .bl b => .bl b
  | _, _, .int i => .int i
  | _, _, .str x => .str x
  | _, _, .lst h a => .lst (ex_l e h) (dpa_mono e a)
  | _, _, .tup h a => .tup (ex_t e h) (dpa_mono e a)
theorem dpa_mono (e : Ex G G') : ∀ {vs : List V} {ds : List PyData}, DpAll K G vs ds → DpAll K G' vs ds
  | _, _, .nil => .nil
  | _, _, .cons h a => .cons (dp_mono e h) (dpa_mono e a)
end
inductive DS (K : PySem.W.Frag) (G : Hp) : V → SD → Prop
  | raw (v : V) : DS K G v (.raw v)
  | py {v : V} {d : PyData} : Dp K G v d → DS K G v (.py d)
theorem ds_mono (e : Ex G G') : ∀ {v : V} {d : SD}, DS K G v d → DS K G' v d
  | _, _, .raw v => .raw v
  | _, _, .py h => .py (dp_mono e h)
inductive DSs (K : PySem.W.Frag) (G : Hp) : List V → List SD → Prop
  | nil : DSs K G [] []
  | cons {v : V} {vs : List V} {d : SD} {ds : List SD} : DS K G v d → DSs K G vs ds → DSs K G (v :: vs) (d :: ds)
theorem dss_mono (e : Ex G G') : ∀ {vs : List V} {ds : List SD}, DSs K G vs ds → DSs K G' vs ds
  | _, _, .nil => .nil
  | _, _, .cons h a => .cons (ds_mono e h) (dss_mono e a)
theorem DSs.length : ∀ {vs : List V} {ds : List SD}, DSs K G vs ds → vs.length = ds.length
  | _, _, .nil => rfl
  | _, _, .cons _ a => by rw [List.length_cons, List.length_cons, a.length]
theorem dpa_length : ∀ {vs : List V} {ds : List PyData}, DpAll K G vs ds → vs.length = ds.length
  | _, _, .nil => rfl
  | _, _, .cons _ a => by rw [List.length_cons, List.length_cons, dpa_length a]
theorem dpa_get : ∀ {vs : List V} {ds : List PyData} {i : Nat} {d : PyData}, DpAll K G vs ds → ds[i]? = some d → ∃ v, vs[i]? = some v ∧ Dp K G v d
  | _, _, _, _, .nil, e => by simp at e
  | _, _, 0, _, .cons h _, e => by simp at e; subst e; exact ⟨_, rfl, h⟩
  | _, _, i + 1, _, .cons _ a, e => by
    obtain ⟨v, h1, h2⟩ := dpa_get (i := i) a (by simpa using e)
    exact ⟨v, by simpa using h1, h2⟩
theorem dpa_get' : ∀ {vs : List V} {ds : List PyData} {i : Nat} {v : V}, DpAll K G vs ds → vs[i]? = some v → ∃ d, ds[i]? = some d ∧ Dp K G v d
  | _, _, _, _, .nil, e => by simp at e
  | _, _, 0, _, .cons h _, e => by simp at e; subst e; exact ⟨_, rfl, h⟩
  | _, _, i + 1, _, .cons _ a, e => by
    obtain ⟨v, h1, h2⟩ := dpa_get' (i := i) a (by simpa using e)
    exact ⟨v, by simpa using h1, h2⟩
def OVok (K : PySem.W.Frag) (G : Hp) : OV → HO → Prop
  | .ho o, u => u = o
  | .dl l, u => ∃ vs, u = .lst vs ∧ DpAll K G vs l
theorem ov_mono (e : Ex G G') : ∀ {v : OV} {o : HO}, OVok K G v o → OVok K G' v o
  | .ho _, _, h => h
  | .dl _, _, ⟨vs, h1, h2⟩ => ⟨vs, h1, dpa_mono e h2⟩
theorem dpa_append : ∀ {vs us : List V} {ds es : List PyData}, DpAll K G vs ds → DpAll K G us es → DpAll K G (vs ++ us) (ds ++ es)
  | _, _, _, _, .nil, b => b
  | _, _, _, _, .cons h a, b => .cons h (dpa_append a b)
theorem dpa_take : ∀ {vs : List V} {ds : List PyData} (n : Nat), DpAll K G vs ds → DpAll K G (vs.take n) (ds.take n)
  | _, _, 0, _ => .nil
  | _, _, _ + 1, .nil => .nil
  | _, _, n + 1, .cons h a => .cons h (dpa_take n a)
theorem dpa_drop : ∀ {vs : List V} {ds : List PyData} (n : Nat), DpAll K G vs ds → DpAll K G (vs.drop n) (ds.drop n)
  | _, _, 0, a => a
  | _, _, _ + 1, .nil => .nil
  | _, _, n + 1, .cons _ a => dpa_drop n a
end

/-! ### growth: G what nobody changes, m what is owned -/
structure Wd (K : PySem.W.Frag) (m : MS) (G H : Hp) : Prop where
  w : Ex G H
  own : ∀ p ∈ m, G p.1 = none ∧ ∃ o, H p.1 = some o ∧ OVok K G p.2 o
  nd : (ad m).Nodup
structure Gr (K : PySem.W.Frag) (m m' : MS) (G H G' H' : Hp) : Prop where
  g : Ex G G'
  h : ∀ a o, a ∉ ad m → H a = some o → H' a = some o
  th : ∀ a, H a ≠ none → H' a ≠ none
  fr : ∀ a, a ∉ ad m → G a = none → H a ≠ none → G' a = none
  nw : ∀ p ∈ m', p.1 ∈ ad m ∨ H p.1 = none
  wd : Wd K m' G' H'
theorem mem_ad {m : MS} {p : Addr × OV} (h : p ∈ m) : p.1 ∈ ad m := List.mem_map_of_mem h
theorem of_ad {m : MS} {a : Addr} (h : a ∈ ad m) : ∃ o, (a, o) ∈ m := by
  obtain ⟨p, hp, e⟩ := List.mem_map.mp h
  exact ⟨p.2, by rw [← e]; exact hp⟩
theorem nn {α : Type} {x : Option α} {o : α} (e : x = some o) : x ≠ none := by rw [e]; exact fun z => nomatch z
section
variable {K : PySem.W.Frag} {m m' m1 m2 : MS} {G H G' H' G1 H1 G2 H2 : Hp}
theorem Gr.refl (w : Wd K m G H) : Gr K m m G H G H := ⟨Ex.refl _, fun _ _ _ e => e, fun _ e => e, fun _ _ e _ => e, fun _ hp => .inl (mem_ad hp), w⟩
theorem Gr.out (a : Gr K m m1 G H G1 H1) {c : Addr} (hc : c ∉ ad m) (e : H c ≠ none) : c ∉ ad m1 := fun z => by
  obtain ⟨u, hu⟩ := of_ad z
  rcases a.nw _ hu with q | q
  · exact hc q
  · exact e q
theorem Gr.trans (a : Gr K m m1 G H G1 H1) (b : Gr K m1 m2 G1 H1 G2 H2) : Gr K m m2 G H G2 H2 where
  g := a.g.trans b.g
  h := fun c o hc e => b.h c o (a.out hc (nn e)) (a.h c o hc e)
  th := fun c e => b.th c (a.th c e)
  fr := fun c hc e f => b.fr c (a.out hc f) (a.fr c hc e f) (a.th c f)
  nw := fun p hp => by
    rcases b.nw p hp with q | q
    · obtain ⟨u, hu⟩ := of_ad q
      exact a.nw (p.1, u) hu
    · refine .inr ?_
      cases z : H p.1 with
      | none => rfl
      | some o => exact absurd q (a.th _ (nn z))
  wd := b.wd
/-- a new thing that nobody will change -/
theorem Gr.new {p : Addr} {o : HO} (w : Wd K m G H) (hp : H p = none) : Gr K m m G H (upd G p o) (upd H p o) where
  g := Ex.new (w.w.back hp)
  h := fun a u _ e => by rw [upd_ne (ne_of_none e hp)]; exact e
  th := fun a e => by
    by_cases q : a = p
    · subst q; rw [upd_same]; exact fun z => nomatch z
    · rw [upd_ne q]; exact e
  fr := fun a _ e f => by
    by_cases q : a = p
    · subst q; exact absurd hp f
    · rw [upd_ne q]; exact e
  nw := fun q hq => .inl (mem_ad hq)
  wd := ⟨w.w.both, fun q hq => by
    obtain ⟨h1, u, h2, h3⟩ := w.own q hq
    have ne : q.1 ≠ p := ne_of_none h2 hp
    rw [upd_ne ne, upd_ne ne]
    exact ⟨h1, u, h2, ov_mono (Ex.new (w.w.back hp)) h3⟩, w.nd⟩
/-- a new thing that is owned -/
theorem Gr.made {p : Addr} {o : HO} {v : OV} (w : Wd K m G H) (hp : H p = none) (ho : OVok K G v o) : Gr K m ((p, v) :: m) G H G (upd H p o) where
  g := Ex.refl _
  h := fun a u _ e => by rw [upd_ne (ne_of_none e hp)]; exact e
  th := fun a e => by
    by_cases q : a = p
    · subst q; rw [upd_same]; exact fun z => nomatch z
    · rw [upd_ne q]; exact e
  fr := fun a _ e _ => e
  nw := fun q hq => by
    rcases List.mem_cons.mp hq with rfl | hq
    · exact .inr hp
    · exact .inl (mem_ad hq)
  wd := ⟨fun a u e => by rw [upd_ne (ne_of_none (w.w a u e) hp)]; exact w.w a u e, fun q hq => by
    rcases List.mem_cons.mp hq with rfl | hq
    · exact ⟨w.w.back hp, o, upd_same, ho⟩
    · obtain ⟨h1, u, h2, h3⟩ := w.own q hq
      rw [upd_ne (ne_of_none h2 hp)]
      exact ⟨h1, u, h2, h3⟩, by
    refine List.nodup_cons.mpr ⟨fun z => ?_, w.nd⟩
    obtain ⟨u, hu⟩ := of_ad z
    obtain ⟨_, u, q, _⟩ := w.own _ hu
    have q : H p = some u := q
    rw [hp] at q; cases q⟩
/-- the owned thing at p behind a store -/
def mset (m : MS) (p : Addr) (o : OV) : MS := m.map fun q => if q.1 = p then (p, o) else q
theorem ad_mset (m : MS) (p : Addr) (o : OV) : ad (mset m p o) = ad m := by
  unfold ad mset
  rw [List.map_map]
  refine List.map_congr_left fun q _ => ?_
  show (if q.1 = p then (p, o) else q).1 = q.1
  by_cases e : q.1 = p
  · rw [if_pos e]; exact e.symm
  · rw [if_neg e]
theorem Gr.set {p : Addr} {o : HO} {u v : OV} (w : Wd K m G H) (hp : (p, u) ∈ m) (ho : OVok K G v o) : Gr K m (mset m p v) G H G (upd H p o) where
  g := Ex.refl _
  h := fun a x ha e => by
    have ne : a ≠ p := fun z => ha (by rw [z]; exact mem_ad hp)
    rw [upd_ne ne]; exact e
  th := fun a e => by
    by_cases q : a = p
    · subst q; rw [upd_same]; exact fun z => nomatch z
    · rw [upd_ne q]; exact e
  fr := fun a _ e _ => e
  nw := fun q hq => .inl (by rw [← ad_mset m p v]; exact mem_ad hq)
  wd := ⟨fun a x e => by
    have ne : a ≠ p := fun z => by
      have q : G p = none := (w.own _ hp).1
      rw [← z, e] at q; cases q
    rw [upd_ne ne]; exact w.w a x e, fun q hq => by
    obtain ⟨r, hr, e⟩ := List.mem_map.mp hq
    by_cases z : r.1 = p
    · rw [if_pos z] at e
      subst e
      exact ⟨(w.own _ hp).1, o, upd_same, ho⟩
    · rw [if_neg z] at e
      subst e
      rw [upd_ne z]
      exact w.own r hr, by rw [ad_mset]; exact w.nd⟩
theorem Wd.perm (w : Wd K m G H) (h : m.Perm m') : Wd K m' G H := ⟨w.w, fun p hp => w.own p (h.mem_iff.mpr hp), (h.map _).nodup_iff.mp w.nd⟩
/-- what one owns beside stays -/
theorem Gr.frame {fr : MS} (w : Wd K (fr ++ m) G H) (a : Gr K m m' G H G' H') : Gr K (fr ++ m) (fr ++ m') G H G' H' where
  g := a.g
  h := fun b o hb e => a.h b o (fun z => hb (by unfold ad at *; rw [List.map_append]; exact List.mem_append_right _ z)) e
  th := a.th
  fr := fun b hb => a.fr b fun z => hb (by unfold ad at *; rw [List.map_append]; exact List.mem_append_right _ z)
  nw := fun p hp => by
    rcases List.mem_append.mp hp with hp | hp
    · exact .inl (mem_ad (List.mem_append_left _ hp))
    · rcases a.nw p hp with q | q
      · exact .inl (by unfold ad at *; rw [List.map_append]; exact List.mem_append_right _ q)
      · exact .inr q
  wd := by
    have nd := w.nd
    unfold ad at nd
    rw [List.map_append, List.nodup_append] at nd
    obtain ⟨n1, n2, n3⟩ := nd
    have fresh : ∀ p ∈ fr, p.1 ∉ ad m := fun p hp z => n3 _ (List.mem_map_of_mem hp) _ z rfl
    refine ⟨a.wd.w, fun p hp => ?_, ?_⟩
    · rcases List.mem_append.mp hp with hp | hp
      · obtain ⟨h1, u, h2, h3⟩ := w.own p (List.mem_append_left _ hp)
        exact ⟨a.fr _ (fresh p hp) h1 (nn h2), u, a.h _ _ (fresh p hp) h2, ov_mono a.g h3⟩
      · exact a.wd.own p hp
    · unfold ad
      rw [List.map_append, List.nodup_append]
      refine ⟨n1, a.wd.nd, fun x hx y hy z => ?_⟩
      subst z
      obtain ⟨p, hp, rfl⟩ := List.mem_map.mp hx
      obtain ⟨q, hq, e⟩ := List.mem_map.mp hy
      rcases a.nw q hq with r | r
      · rw [e] at r; exact fresh p hp r
      · obtain ⟨_, u, h2, _⟩ := w.own p (List.mem_append_left _ hp)
        rw [e, h2] at r; cases r
theorem Wd.sub {fr : MS} (w : Wd K (fr ++ m) G H) : Wd K m G H := ⟨w.w, fun p hp => w.own p (List.mem_append_right _ hp), by
  have nd := w.nd
  unfold ad at nd ⊢
  rw [List.map_append, List.nodup_append] at nd
  exact nd.2.1⟩
/-- an owned thing is given up: nobody will change it from here on -/
theorem Gr.seal {p : Addr} {o : HO} {v : OV} (w : Wd K ((p, v) :: m) G H) (ho : H p = some o) : Gr K ((p, v) :: m) m G H (upd G p o) H where
  g := Ex.new (w.own _ List.mem_cons_self).1
  h := fun _ _ _ e => e
  th := fun _ e => e
  fr := fun a ha e f => by
    have ne : a ≠ p := fun z => ha (by rw [z]; exact List.mem_cons_self)
    rw [upd_ne ne]; exact e
  nw := fun q hq => .inl (mem_ad (List.mem_cons_of_mem _ hq))
  wd := by
    have nd := w.nd
    unfold ad at nd
    rw [List.map_cons, List.nodup_cons] at nd
    refine ⟨fun a u e => ?_, fun q hq => ?_, nd.2⟩
    · by_cases z : a = p
      · subst z; rw [upd_same] at e; cases e; exact ho
      · rw [upd_ne z] at e; exact w.w a u e
    · obtain ⟨h1, u, h2, h3⟩ := w.own q (List.mem_cons_of_mem _ hq)
      have ne : q.1 ≠ p := fun z => nd.1 (List.mem_map.mpr ⟨q, hq, z⟩)
      rw [upd_ne ne]
      exact ⟨h1, u, h2, ov_mono (Ex.new (w.own _ List.mem_cons_self).1) h3⟩
/-- an owned thing is forgotten -/
theorem Gr.drop {p : Addr} {v : OV} (w : Wd K ((p, v) :: m) G H) : Gr K ((p, v) :: m) m G H G H := ⟨Ex.refl _, fun _ _ _ e => e, fun _ e => e, fun _ _ e _ => e, fun q hq => .inl (mem_ad (List.mem_cons_of_mem _ hq)),
  ⟨w.w, fun q hq => w.own q (List.mem_cons_of_mem _ hq), by
    have nd := w.nd
    unfold ad at nd ⊢
    rw [List.map_cons, List.nodup_cons] at nd
    exact nd.2⟩⟩
end
end W9
namespace W9
open PySem PySem.Spec PyProof.Rows L2

/-! ### what is wanted of a state, by the syntax itself -/
section
variable (X : Cx)
def wE (e : Expr) : TE := fun σ H Q => ∀ pins s, Inv X pins σ H s → wpAny (model X.prog X.w) X.A (eval e X.env) (EP X pins σ Q) X.xe s
def wT (e : Expr) : TT := fun σ H Q => ∀ pins s, Inv X pins σ H s → wpAny (model X.prog X.w) X.A (isTrue e X.env (eval e X.env)) (TP X pins σ Q) X.xe s
def wA (es : List Expr) : TA := fun σ H Q => ∀ (pos : Pos) pins s, Inv X pins σ H s → wpAny (model X.prog X.w) X.A (spliced (backTo pos (starEach es X.env))) (AP X pins σ Q) X.xe s
def wS (st : Stmt) : TS := fun D σ H => ∀ pins s, Inv X pins σ H s → wpAny (model X.prog X.w) X.A (exec st X.env) (SP X pins D) X.xe s
def wSs (st : List Stmt) : TS := fun D σ H => ∀ pins s, Inv X pins σ H s → wpAny (model X.prog X.w) X.A (execs st X.env) (SP X pins D) X.xe s
def wG (tg : Expr) : TG := fun v σ H Q => ∀ pins s u, Inv X pins σ H s → RelV v u → wpAny (model X.prog X.w) X.A (assign tg X.env u) (fun _ s' => ∃ σ' H', Inv X pins σ' H' s' ∧ Q σ' H') X.xe s
def wGs (ts : List Expr) : TGs := fun vs σ H Q => ∀ pins s us, Inv X pins σ H s → Vals vs us → wpAny (model X.prog X.w) X.A (assignInOrder ((assignEach ts X.env).map (·.2)) us) (fun _ s' => ∃ σ' H', Inv X pins σ' H' s' ∧ Q σ' H') X.xe s
def wI (tg iter : Expr) : TI := fun σ H R => ∀ pins s, Inv X pins σ H s → wpAny (model X.prog X.w) X.A (eval iter X.env) (fun v s1 => wpAny (model X.prog X.w) X.A (pyIter v) (PIE X pins σ tg R) X.xe s1) X.xe s
def wP (e : Option Expr) : TO := fun σ H Q => ∀ pins s, Inv X pins σ H s → wpAny (model X.prog X.w) X.A (evalPart e X.env) (fun u s' => ∃ o H', Inv X pins σ H' s' ∧ IsPart u o ∧ Q o H') X.xe s
def wTs (ifs : List Expr) : TT := fun σ H Q => ∀ pins s, Inv X pins σ H s → wpAny (model X.prog X.w) X.A (forIn ifs true fun c r => if r = true then do let ok ← isTrue c X.env (eval c X.env); pure (ForInStep.yield ok) else pure (ForInStep.yield r)) (TP X pins σ Q) X.xe s
end
section
variable {X : Cx}
theorem pE (e : Expr) : PE X e (wE X e) := ⟨fun pins s σ H Q I h => h pins s I⟩
theorem pT (e : Expr) : PT X e (wT X e) := ⟨fun pins s σ H Q I h => h pins s I⟩
theorem pA (es : List Expr) : PA X es (wA X es) := ⟨fun pos pins s σ H Q I h => h pos pins s I⟩
theorem pS (st : Stmt) : PS X st (wS X st) := ⟨fun pins s σ H D I h => h pins s I⟩
theorem pSs (st : List Stmt) : PSs X st (wSs X st) := ⟨fun pins s σ H D I h => h pins s I⟩
theorem pG (tg : Expr) : PG X tg (wG X tg) := ⟨fun pins s σ H v u Q I r h => h pins s u I r⟩
theorem pGs (tg : List Expr) : PGs X tg (wGs X tg) := ⟨fun pins s σ H v u Q I r h => h pins s u I r⟩
theorem pI (tg iter : Expr) : PI X tg iter (wI X tg iter) := ⟨fun pins s σ H R I h => h pins s I⟩
theorem pO (e : Option Expr) : PO X e (wP X e) := ⟨fun pins s σ H Q I h => h pins s I⟩
theorem pTs (ifs : List Expr) : PTs X ifs (wTs X ifs) := ⟨fun pins s σ H Q I h => h pins s I⟩
theorem oE {e : Expr} {t : TE} (p : PE X e t) {σ : L2.St} {H : Hp} {Q : VK} (h : t σ H Q) : wE X e σ H Q := fun pins s I => p.run pins s σ H Q I h
theorem oT {e : Expr} {t : TT} (p : PT X e t) {σ : L2.St} {H : Hp} {Q : Bool → Hp → Prop} (h : t σ H Q) : wT X e σ H Q := fun pins s I => p.run pins s σ H Q I h
theorem oA {es : List Expr} {t : TA} (p : PA X es t) {σ : L2.St} {H : Hp} {Q : List V → Hp → Prop} (h : t σ H Q) : wA X es σ H Q := fun pos pins s I => p.run pos pins s σ H Q I h
theorem oS {st : Stmt} {t : TS} (p : PS X st t) {σ : L2.St} {H : Hp} {D : Ends} (h : t D σ H) : wS X st D σ H := fun pins s I => p.run pins s σ H D I h
theorem oSs {st : List Stmt} {t : TS} (p : PSs X st t) {σ : L2.St} {H : Hp} {D : Ends} (h : t D σ H) : wSs X st D σ H := fun pins s I => p.run pins s σ H D I h
theorem oG {tg : Expr} {t : TG} (p : PG X tg t) {v : V} {σ : L2.St} {H : Hp} {Q : L2.St → Hp → Prop} (h : t v σ H Q) : wG X tg v σ H Q := fun pins s u I r => p.run pins s σ H v u Q I r h
theorem oI {tg iter : Expr} {t : TI} (p : PI X tg iter t) {σ : L2.St} {H : Hp} {R : It → Hp → Prop} (h : t σ H R) : wI X tg iter σ H R := fun pins s I => p.run pins s σ H R I h
end

/-! ### the judgements over data -/
def EnvD (K : PySem.W.Frag) (G : Hp) (σ : L2.St) (ds : DE) : Prop := σ.length = ds.length ∧ ∀ (i : Nat) (d : SD), ds[i]? = some (some d) → ∃ v, σ[i]? = some (some v) ∧ DS K G v d
section
variable {K : PySem.W.Frag} {G G' : Hp} {σ : L2.St} {ds : DE}
theorem EnvD.mono (E : EnvD K G σ ds) (e : Ex G G') : EnvD K G' σ ds := ⟨E.1, fun i d h => let ⟨v, h1, h2⟩ := E.2 i d h; ⟨v, h1, ds_mono e h2⟩⟩
theorem EnvD.set (E : EnvD K G σ ds) {i : Nat} {v : V} {d : SD} (h : DS K G v d) : EnvD K G (σ.set i (some v)) (ds.set i (some d)) := by
  refine ⟨by rw [List.length_set, List.length_set]; exact E.1, fun j e he => ?_⟩
  by_cases hj : i = j
  · subst hj
    by_cases hl : i < ds.length
    · rw [List.getElem?_set_self hl] at he
      have hs : i < σ.length := by rw [E.1]; exact hl
      rw [List.getElem?_set_self hs]
      cases he
      exact ⟨v, rfl, h⟩
    · rw [List.getElem?_eq_none (by rw [List.length_set]; omega)] at he; cases he
  · rw [List.getElem?_set_ne hj] at he ⊢
    exact E.2 j e he
end
section
variable (X : Cx)
def WE (e : Expr) (ds : DE) (m : MS) (P : SD → MS → Prop) : Prop := ∀ σ G H, EnvD X.K G σ ds → Wd X.K m G H → ∀ Q : VK, (∀ v d m' G' H', Gr X.K m m' G H G' H' → DS X.K G' v d → P d m' → Q v H') → wE X e σ H Q
def WT (e : Expr) (ds : DE) (m : MS) (P : Bool → MS → Prop) : Prop := ∀ σ G H, EnvD X.K G σ ds → Wd X.K m G H → ∀ Q : Bool → Hp → Prop, (∀ b m' G' H', Gr X.K m m' G H G' H' → P b m' → Q b H') → wT X e σ H Q
def WTs (es : List Expr) (ds : DE) (m : MS) (P : Bool → MS → Prop) : Prop := ∀ σ G H, EnvD X.K G σ ds → Wd X.K m G H → ∀ Q : Bool → Hp → Prop, (∀ b m' G' H', Gr X.K m m' G H G' H' → P b m' → Q b H') → wTs X es σ H Q
def WA (es : List Expr) (ds : DE) (m : MS) (P : List SD → MS → Prop) : Prop := ∀ σ G H, EnvD X.K G σ ds → Wd X.K m G H → ∀ Q : List V → Hp → Prop, (∀ vs xs m' G' H', Gr X.K m m' G H G' H' → DSs X.K G' vs xs → P xs m' → Q vs H') → wA X es σ H Q
def WO (e : Option Expr) (ds : DE) (m : MS) (P : Option Int → MS → Prop) : Prop := ∀ σ G H, EnvD X.K G σ ds → Wd X.K m G H → ∀ Q : Option Int → Hp → Prop, (∀ o m' G' H', Gr X.K m m' G H G' H' → P o m' → Q o H') → wP X e σ H Q
/-- a target: the slots js alone are written -/
def WG (tg : Expr) (js : List Nat) (x : SD) (ds : DE) (m : MS) (P : DE → MS → Prop) : Prop := ∀ σ G H v, EnvD X.K G σ ds → Wd X.K m G H → DS X.K G v x → ∀ Q : L2.St → Hp → Prop,
  (∀ σ' ds' m' G' H', Gr X.K m m' G H G' H' → EnvD X.K G' σ' ds' → ((∀ i, i ∉ js → σ'[i]? = σ[i]?) ∧ σ'.length = σ.length) → P ds' m' → Q σ' H') → wG X tg v σ H Q
def WGs (tgs : List Expr) (js : List Nat) (xs : List SD) (ds : DE) (m : MS) (P : DE → MS → Prop) : Prop := ∀ σ G H vs, EnvD X.K G σ ds → Wd X.K m G H → DSs X.K G vs xs → ∀ Q : L2.St → Hp → Prop,
  (∀ σ' ds' m' G' H', Gr X.K m m' G H G' H' → EnvD X.K G' σ' ds' → ((∀ i, i ∉ js → σ'[i]? = σ[i]?) ∧ σ'.length = σ.length) → P ds' m' → Q σ' H') → wGs X tgs vs σ H Q
structure ED where
  nx : DE → MS → Prop
  rt : SD → MS → Prop := fun _ _ => False
  bk : DE → MS → Prop := fun _ _ => False
  ct : DE → MS → Prop := fun _ _ => False
structure EndsOk (K : PySem.W.Frag) (m : MS) (G H : Hp) (E : ED) (D : Ends) : Prop where
  nx : ∀ σ' ds' m' G' H', Gr K m m' G H G' H' → EnvD K G' σ' ds' → E.nx ds' m' → D.nx σ' H'
  rt : ∀ v d m' G' H', Gr K m m' G H G' H' → DS K G' v d → E.rt d m' → D.rt v H'
  bk : ∀ σ' ds' m' G' H', Gr K m m' G H G' H' → EnvD K G' σ' ds' → E.bk ds' m' → D.bk σ' H'
  ct : ∀ σ' ds' m' G' H', Gr K m m' G H G' H' → EnvD K G' σ' ds' → E.ct ds' m' → D.ct σ' H'
def WS (st : Stmt) (ds : DE) (m : MS) (E : ED) : Prop := ∀ σ G H, EnvD X.K G σ ds → Wd X.K m G H → ∀ D, EndsOk X.K m G H E D → wS X st D σ H
def WSs (st : List Stmt) (ds : DE) (m : MS) (E : ED) : Prop := ∀ σ G H, EnvD X.K G σ ds → Wd X.K m G H → ∀ D, EndsOk X.K m G H E D → wSs X st D σ H
/-- a plain value, whatever is owned -/
def EE (e : Expr) (ds : DE) (d : SD) : Prop := ∀ m, WE X e ds m fun d' m' => d' = d ∧ m' = m
def ET (e : Expr) (ds : DE) (b : Bool) : Prop := ∀ m, WT X e ds m fun b' m' => b' = b ∧ m' = m
def EA (es : List Expr) (ds : DE) (xs : List SD) : Prop := ∀ m, WA X es ds m fun d' m' => d' = xs ∧ m' = m
end
theorem EndsOk.after {K : PySem.W.Frag} {m m1 : MS} {G H G1 H1 : Hp} {E : ED} {D : Ends} (k : EndsOk K m G H E D) (g : Gr K m m1 G H G1 H1) : EndsOk K m1 G1 H1 E D :=
  ⟨fun σ' ds' m' G' H' a => k.nx σ' ds' m' G' H' (g.trans a), fun v d m' G' H' a => k.rt v d m' G' H' (g.trans a), fun σ' ds' m' G' H' a => k.bk σ' ds' m' G' H' (g.trans a), fun σ' ds' m' G' H' a => k.ct σ' ds' m' G' H' (g.trans a)⟩
section
variable {X : Cx} {ds : DE} {m : MS} {e a b c : Expr} {pos : Pos}
theorem WE.mono {P P' : SD → MS → Prop} (h : WE X e ds m P) (k : ∀ d m', P d m' → P' d m') : WE X e ds m P' := fun σ G H E w Q q => h σ G H E w Q fun v d m' G' H' g r p => q v d m' G' H' g r (k d m' p)
theorem WT.mono {P P' : Bool → MS → Prop} (h : WT X e ds m P) (k : ∀ d m', P d m' → P' d m') : WT X e ds m P' := fun σ G H E w Q q => h σ G H E w Q fun v m' G' H' g p => q v m' G' H' g (k v m' p)
theorem WA.mono {es : List Expr} {P P' : List SD → MS → Prop} (h : WA X es ds m P) (k : ∀ d m', P d m' → P' d m') : WA X es ds m P' := fun σ G H E w Q q => h σ G H E w Q fun v d m' G' H' g r p => q v d m' G' H' g r (k d m' p)
theorem EE.to {d : SD} {P : SD → MS → Prop} (h : EE X e ds d) (p : P d m) : WE X e ds m P := (h m).mono fun d' m' ⟨e1, e2⟩ => by subst e1 e2; exact p
theorem ET.to {d : Bool} {P : Bool → MS → Prop} (h : ET X e ds d) (p : P d m) : WT X e ds m P := (h m).mono fun d' m' ⟨e1, e2⟩ => by subst e1 e2; exact p
theorem EA.to {es : List Expr} {d : List SD} {P : List SD → MS → Prop} (h : EA X es ds d) (p : P d m) : WA X es ds m P := (h m).mono fun d' m' ⟨e1, e2⟩ => by subst e1 e2; exact p
theorem EE.is {d d' : SD} (h : EE X e ds d) (q : d = d') : EE X e ds d' := by rw [← q]; exact h
theorem ET.is {d d' : Bool} (h : ET X e ds d) (q : d = d') : ET X e ds d' := by rw [← q]; exact h

/-! ### names, constants -/
theorem we_var {i : Nat} {x : Str} {d : SD} {P : SD → MS → Prop} (hd : ds[i]? = some (some d)) (hN : X.N[i]? = some x) (hv : Vis X.env.scope x) (p : P d m)
    (hdb : (x == ("__debug__" : Str)) = false := by decide) (hcd : (x == ("__classdict__" : Str)) = false := by decide) : WE X (.Name x pos) ds m P := fun σ G H E w Q q => by
  obtain ⟨v, h1, h2⟩ := E.2 i d hd
  exact oE (pe_var hN hv hdb hcd) ⟨v, h1, q v d m G H (.refl w) h2 p⟩
theorem ee_var {i : Nat} {x : Str} {d : SD} (hd : ds[i]? = some (some d)) (hN : X.N[i]? = some x := by rfl) (hv : Vis X.env.scope x := by first | exact Or.inl rfl | exact Or.inr (Or.inl rfl) | exact Or.inr (Or.inr rfl))
    (hdb : (x == ("__debug__" : Str)) = false := by decide) (hcd : (x == ("__classdict__" : Str)) = false := by decide) : EE X (.Name x pos) ds d := fun m => we_var hd hN hv ⟨rfl, rfl⟩ hdb hcd
abbrev I (i : Int) : SD := .py (.int i)
abbrev B (b : Bool) : SD := .py (.bool b)
abbrev S (l : List Nat) : SD := .py (.str ⟨l.toArray⟩)
abbrev N0 : SD := .py .none
abbrev Tp (l : List PyData) : SD := .py (.tuple l)
abbrev Ls (l : List PyData) : SD := .py (.list l)
theorem ee_c {v : V} {d : SD} (p : PE X e (tC v)) (h : ∀ G, DS X.K G v d) : EE X e ds d := fun m σ G H E w Q q => oE p (q v d m G H (.refl w) (h G) ⟨rfl, rfl⟩)
theorem ee_int {i j} : EE X (.Constant (.int i) j pos) ds (I i) := ee_c pe_int fun _ => .py (.int i)
theorem ee_bl {i j} : EE X (.Constant (.bool i) j pos) ds (B i) := ee_c pe_bl fun _ => .py (.bl i)
theorem ee_non {j} : EE X (.Constant .none j pos) ds N0 := ee_c pe_non fun _ => .py .non
theorem ee_str {i j} : EE X (.Constant (.str i) j pos) ds (.py (.str i)) := ee_c pe_str fun _ => .py (.str i)
theorem ee_strS {i j} {l : List Nat} (h : i = ⟨l.toArray⟩ := by first | rfl | decide +kernel) : EE X (.Constant (.str i) j pos) ds (S l) := ee_c pe_str fun _ => by rw [h]; exact .py (.str _)
theorem ee_glob {x : Str} {v : V} {u : Value} {d : SD} (hm : X.mg x = some u) (r : RelV v u) (h : ∀ G, DS X.K G v d) (hg : Gl X x := by rfl) (hd : (x == ("__debug__" : Str)) = false := by decide) : EE X (.Name x pos) ds d := ee_c (pe_glob hg hm r hd) h

/-! ### operations on values -/
/-- x op y is z -/
def R2D (X : Cx) (m : MS) (r : R2) (x y z : SD) : Prop := ∀ G H v u, Wd X.K m G H → DS X.K G v x → DS X.K G u y → ∀ Q : VK, (∀ w G' H', Gr X.K m m G H G' H' → DS X.K G' w z → Q w H') → r v u H Q
def BinD (X : Cx) (op : Operator) (x y z : SD) : Prop := ∃ r, OpR X (binaryOp op) r ∧ ∀ m, R2D X m r x y z
def CmpD (X : Cx) (op : CmpOp) (x y : SD) (z : Bool) : Prop := ∃ r, OpR X (compareOp op) r ∧ ∀ m, R2D X m r x y (B z)
def SubD (X : Cx) (m : MS) (x y z : SD) : Prop := ∃ r, IxR X r ∧ R2D X m r x y z
theorem we_bin {op : Operator} {P : SD → MS → Prop} (h : WE X a ds m fun x m1 => WE X b ds m1 fun y m2 => ∃ z, BinD X op x y z ∧ P z m2) : WE X (.BinOp a op b pos) ds m P := fun σ G H E w Q q => by
  intro pins s I
  refine wpAny_BinOp (binT (pE a) (pE b) (R := fun v u H2 => ∃ r, OpR X (binaryOp op) r ∧ r v u H2 Q) I ?_ fun v u s2 x y H2 I2 rx ry ⟨r, ho, hr⟩ => ho pins s2 σ H2 x y v u Q I2 rx ry hr)
  refine h σ G H E w _ fun v x m1 G1 H1 g1 r1 p1 => p1 σ G1 H1 (E.mono g1.g) g1.wd _ fun u y m2 G2 H2 g2 r2 ⟨z, ⟨r, ho, hr⟩, p⟩ => ⟨r, ho, ?_⟩
  exact hr m2 G2 H2 v u g2.wd (ds_mono g2.g r1) r2 Q fun w' G3 H3 g3 r3 => q w' z m2 G3 H3 ((g1.trans g2).trans g3) r3 p
theorem ee_bin {op : Operator} {x y z : SD} (ha : EE X a ds x) (hb : EE X b ds y) (hr : BinD X op x y z) : EE X (.BinOp a op b pos) ds z := fun m => we_bin (ha.to (hb.to ⟨z, hr, rfl, rfl⟩))
theorem nomk {b : Expr} {op : CmpOp} (h : op ≠ .In) (h2 : op ≠ .NotIn) : behindInMarks op b = false := nobehind b h h2
theorem we_cmp {op : CmpOp} {P : SD → MS → Prop} (h : WE X a ds m fun x m1 => WE X b ds m1 fun y m2 => ∃ z, CmpD X op x y z ∧ P (B z) m2) (hm : behindInMarks op b = false := by first | exact nobehind _ (by decide) (by decide) | rfl) : WE X (.Compare a [op] [b] pos) ds m P := fun σ G H E w Q q => by
  intro pins s I
  refine wpAny_Compare1 (binT (pE a) (pE b) (R := fun v u H2 => ∃ r, OpR X (compareOp op) r ∧ r v u H2 Q) I ?_ fun v u s2 x y H2 I2 rx ry ⟨r, ho, hr⟩ => ho pins s2 σ H2 x y v u Q I2 rx ry hr) hm
  refine h σ G H E w _ fun v x m1 G1 H1 g1 r1 p1 => p1 σ G1 H1 (E.mono g1.g) g1.wd _ fun u y m2 G2 H2 g2 r2 ⟨z, ⟨r, ho, hr⟩, p⟩ => ⟨r, ho, ?_⟩
  exact hr m2 G2 H2 v u g2.wd (ds_mono g2.g r1) r2 Q fun w' G3 H3 g3 r3 => q w' (B z) m2 G3 H3 ((g1.trans g2).trans g3) r3 p
theorem ee_cmp {op : CmpOp} {x y : SD} {z : Bool} (ha : EE X a ds x) (hb : EE X b ds y) (hr : CmpD X op x y z) (hm : behindInMarks op b = false := by first | exact nobehind _ (by decide) (by decide) | rfl) : EE X (.Compare a [op] [b] pos) ds (B z) := fun m => we_cmp (ha.to (hb.to ⟨z, hr, rfl, rfl⟩)) hm
theorem ds_bl {K : PySem.W.Frag} {G : Hp} {v : V} {z : Bool} (h : DS K G v (B z)) : v = .bl z := by
  cases h with
  | py h => cases h; rfl
theorem ds_int {K : PySem.W.Frag} {G : Hp} {v : V} {z : Int} (h : DS K G v (I z)) : v = .int z := by
  cases h with
  | py h => cases h; rfl
theorem ds_str {K : PySem.W.Frag} {G : Hp} {v : V} {z : Str} (h : DS K G v (.py (.str z))) : v = .str z := by
  cases h with
  | py h => cases h; rfl
theorem ds_non {K : PySem.W.Frag} {G : Hp} {v : V} (h : DS K G v N0) : v = .non := by
  cases h with
  | py h => cases h; rfl
theorem ds_tup {K : PySem.W.Frag} {G : Hp} {v : V} {l : List PyData} (h : DS K G v (Tp l)) : ∃ a xs, v = .ref a ∧ SqT K G a xs ∧ DpAll K G xs l := by
  cases h with
  | py h => cases h with
    | tup h1 h2 => exact ⟨_, _, rfl, h1, h2⟩
theorem ds_lst {K : PySem.W.Frag} {G : Hp} {v : V} {l : List PyData} (h : DS K G v (Ls l)) : ∃ a xs, v = .ref a ∧ SqL K G a xs ∧ DpAll K G xs l := by
  cases h with
  | py h => cases h with
    | lst h1 h2 => exact ⟨_, _, rfl, h1, h2⟩
theorem ds_raw {K : PySem.W.Frag} {G : Hp} {v u : V} (h : DS K G v (.raw u)) : v = u := by cases h; rfl
theorem wt_cmp {op : CmpOp} {P : Bool → MS → Prop} (h : WE X a ds m fun x m1 => WE X b ds m1 fun y m2 => ∃ z, CmpD X op x y z ∧ P z m2) (hm : behindInMarks op b = false := by first | exact nobehind _ (by decide) (by decide) | rfl) : WT X (.Compare a [op] [b] pos) ds m P := fun σ G H E w Q q => by
  have p : PC X op a b (fun σ H Q => wE X a σ H fun v H1 => wE X b σ H1 fun u H2 => ∃ r, OpR X (compareOp op) r ∧ r v u H2 Q) := by
    refine ⟨fun pins s σ H Q I h => ?_⟩
    refine thn ((pE a).run pins s σ H _ I h) fun v s1 ⟨x, H1, I1, r1, q1⟩ => ?_
    refine thn ((pE b).run pins s1 σ H1 _ I1 q1) fun u s2 ⟨y, H2, I2, r2, ⟨r, ho, hr⟩⟩ => ?_
    exact ho pins s2 σ H2 x y v u Q I2 r1 r2 hr
  refine oT (pt_cmp p hm) ?_
  refine h σ G H E w _ fun v x m1 G1 H1 g1 r1 p1 => p1 σ G1 H1 (E.mono g1.g) g1.wd _ fun u y m2 G2 H2 g2 r2 ⟨z, ⟨r, ho, hr⟩, p⟩ => ⟨r, ho, ?_⟩
  exact hr m2 G2 H2 v u g2.wd (ds_mono g2.g r1) r2 _ fun w' G3 H3 g3 r3 => ⟨z, ds_bl r3, q z m2 G3 H3 ((g1.trans g2).trans g3) p⟩
theorem et_cmp {op : CmpOp} {x y : SD} {z : Bool} (ha : EE X a ds x) (hb : EE X b ds y) (hr : CmpD X op x y z) (hm : behindInMarks op b = false := by first | exact nobehind _ (by decide) (by decide) | rfl) : ET X (.Compare a [op] [b] pos) ds z := fun m => wt_cmp (ha.to (hb.to ⟨z, hr, rfl, rfl⟩)) hm
/-- a < b < c -/
theorem we_chain {op op' : CmpOp} {x y z : SD} {k l : Bool} (ha : EE X a ds x) (hb : EE X b ds y) (hc : EE X c ds z) (h1 : CmpD X op x y k) (h2 : CmpD X op' y z l) (hm : lastMarks [op, op'] [b, c] = false) :
    EE X (.Compare a [op, op'] [b, c] pos) ds (B (k && l)) ∧ ET X (.Compare a [op, op'] [b, c] pos) ds (k && l) := by
  obtain ⟨r, ho, hr⟩ := h1
  obtain ⟨r', ho', hr'⟩ := h2
  refine ⟨fun m σ G H E w Q q => oE (pe_chain ho ho' (pE a) (pE b) (pE c) hm) ?_, fun m σ G H E w Q q => oT (pt_chain ho ho' (pE a) (pE b) (pE c) hm) ?_⟩
  · refine ha m σ G H E w _ fun v x' m1 G1 H1 g1 r1 ⟨e1, e2⟩ => ?_
    subst e1 e2
    refine hb m1 σ G1 H1 (E.mono g1.g) g1.wd _ fun u y' m2 G2 H2 g2 r2 ⟨e1, e2⟩ => ?_
    subst e1 e2
    refine hr m2 G2 H2 v u g2.wd (ds_mono g2.g r1) r2 _ fun w' G3 H3 g3 r3 => ⟨k, ds_bl r3, ?_⟩
    cases k with
    | false =>
      rw [if_neg Bool.false_ne_true]
      exact q _ _ _ _ _ ((g1.trans g2).trans g3) (.py (.bl false)) ⟨rfl, rfl⟩
    | true =>
      rw [if_pos rfl]
      refine hc m2 σ G3 H3 (E.mono ((g1.trans g2).trans g3).g) g3.wd _ fun t z' m4 G4 H4 g4 r4 ⟨e1, e2⟩ => ?_
      subst e1 e2
      refine hr' m4 G4 H4 u t g4.wd (ds_mono (g3.trans g4).g r2) r4 _ fun w'' G5 H5 g5 r5 => ?_
      exact q _ _ _ _ _ ((((g1.trans g2).trans g3).trans g4).trans g5) r5 ⟨rfl, rfl⟩
  · refine ha m σ G H E w _ fun v x' m1 G1 H1 g1 r1 ⟨e1, e2⟩ => ?_
    subst e1 e2
    refine hb m1 σ G1 H1 (E.mono g1.g) g1.wd _ fun u y' m2 G2 H2 g2 r2 ⟨e1, e2⟩ => ?_
    subst e1 e2
    refine hr m2 G2 H2 v u g2.wd (ds_mono g2.g r1) r2 _ fun w' G3 H3 g3 r3 => ⟨k, ds_bl r3, ?_⟩
    cases k with
    | false =>
      rw [if_neg Bool.false_ne_true]
      exact ⟨_, rfl, q _ _ _ _ ((g1.trans g2).trans g3) ⟨rfl, rfl⟩⟩
    | true =>
      rw [if_pos rfl]
      refine hc m2 σ G3 H3 (E.mono ((g1.trans g2).trans g3).g) g3.wd _ fun t z' m4 G4 H4 g4 r4 ⟨e1, e2⟩ => ?_
      subst e1 e2
      refine hr' m4 G4 H4 u t g4.wd (ds_mono (g3.trans g4).g r2) r4 _ fun w'' G5 H5 g5 r5 => ?_
      exact ⟨_, ds_bl r5, q _ _ _ _ ((((g1.trans g2).trans g3).trans g4).trans g5) ⟨rfl, rfl⟩⟩
end
end W9
namespace W9
open PySem PySem.Spec PyProof.Rows L2
/-! ### tests: and, or, not -/
def wW (X : Cx) (e : Expr) : TT := fun σ H Q => ∀ whole pins s, Inv X pins σ H s → wpAny (model X.prog X.w) X.A (isTrue e X.env whole) (TP X pins σ Q) X.xe s
theorem pW {X : Cx} (e : Expr) : PW X e (wW X e) := ⟨fun wh pins s σ H Q I h => h wh pins s I⟩
theorem oW {X : Cx} {e : Expr} {t : TT} (p : PW X e t) {σ : L2.St} {H : Hp} {Q : Bool → Hp → Prop} (h : t σ H Q) : wW X e σ H Q := fun wh pins s I => p.run wh pins s σ H Q I h
def EW (X : Cx) (e : Expr) (ds : DE) (b : Bool) : Prop := ∀ m σ G H, EnvD X.K G σ ds → Wd X.K m G H → ∀ Q : Bool → Hp → Prop, (∀ b' m' G' H', Gr X.K m m' G H G' H' → (b' = b ∧ m' = m) → Q b' H') → wW X e σ H Q
section
variable {X : Cx} {ds : DE} {m : MS} {e a b c : Expr} {es rest : List Expr} {pos : Pos}
theorem EW.is {d d' : Bool} (h : EW X e ds d) (q : d = d') : EW X e ds d' := by rw [← q]; exact h
theorem et_w {k : Bool} (h : EW X e ds k) : ET X e ds k := fun m σ G H E w Q q => oT (pW e).pt (h m σ G H E w Q q)
theorem ew_and1 {k : Bool} (h : ET X a ds k) : EW X (.BoolOp .And [a] pos) ds k := fun m σ G H E w Q q => oW (pw_and1 (pT a)) (h m σ G H E w Q q)
theorem ew_or1 {k : Bool} (h : ET X a ds k) : EW X (.BoolOp .Or [a] pos) ds k := fun m σ G H E w Q q => oW (pw_or1 (pT a)) (h m σ G H E w Q q)
theorem ew_and {k l : Bool} (h : ET X a ds k) (h2 : k = true → EW X (.BoolOp .And (b :: rest) pos) ds l) : EW X (.BoolOp .And (a :: b :: rest) pos) ds (k && l) := fun m σ G H E w Q q => oW (pw_and (pT a) (pW _)) (by
  refine h m σ G H E w _ fun k' m1 G1 H1 g1 ⟨e1, e2⟩ => ?_
  subst e1 e2
  cases k' with
  | true =>
    rw [if_pos rfl]
    exact h2 rfl m1 σ G1 H1 (E.mono g1.g) g1.wd _ fun l' m2 G2 H2 g2 ⟨e1, e2⟩ => q _ _ _ _ (g1.trans g2) ⟨by rw [e1]; rfl, e2⟩
  | false =>
    rw [if_neg Bool.false_ne_true]
    exact q _ _ _ _ g1 ⟨rfl, rfl⟩)
theorem ew_or {k l : Bool} (h : ET X a ds k) (h2 : k = false → EW X (.BoolOp .Or (b :: rest) pos) ds l) : EW X (.BoolOp .Or (a :: b :: rest) pos) ds (k || l) := fun m σ G H E w Q q => oW (pw_or (pT a) (pW _)) (by
  refine h m σ G H E w _ fun k' m1 G1 H1 g1 ⟨e1, e2⟩ => ?_
  subst e1 e2
  cases k' with
  | false =>
    rw [if_neg Bool.false_ne_true]
    exact h2 rfl m1 σ G1 H1 (E.mono g1.g) g1.wd _ fun l' m2 G2 H2 g2 ⟨e1, e2⟩ => q _ _ _ _ (g1.trans g2) ⟨by rw [e1]; rfl, e2⟩
  | true =>
    rw [if_pos rfl]
    exact q _ _ _ _ g1 ⟨rfl, rfl⟩)
theorem et_not {k : Bool} (h : ET X a ds k) : ET X (.UnaryOp .Not a pos) ds (!k) := fun m σ G H E w Q q => oT (pt_not (pT a)) (h m σ G H E w _ fun k' m1 G1 H1 g1 ⟨e1, e2⟩ => q _ _ _ _ g1 ⟨by rw [e1], e2⟩)
theorem wt_not {P : Bool → MS → Prop} (h : WT X a ds m fun k m1 => P (!k) m1) : WT X (.UnaryOp .Not a pos) ds m P := fun σ G H E w Q q => oT (pt_not (pT a)) (h σ G H E w _ fun k' m1 G1 H1 g1 p => q _ _ _ _ g1 p)
theorem wt_val {P : Bool → MS → Prop} (h : WE X e ds m fun d m1 => ∃ k, d = B k ∧ P k m1) (he : ∀ whole, isTrue e X.env whole = (do let v ← whole; standAt e.pos; holding [v] (truthy v)) := by intro _; rfl) : WT X e ds m P := fun σ G H E w Q q =>
  oT (pt_val (pE e) he) (h σ G H E w _ fun v d m1 G1 H1 g1 r1 ⟨k, e1, p⟩ => by subst e1; exact ⟨k, ds_bl r1, q _ _ _ _ g1 p⟩)
theorem et_val {k : Bool} (h : EE X e ds (B k)) (he : ∀ whole, isTrue e X.env whole = (do let v ← whole; standAt e.pos; holding [v] (truthy v)) := by intro _; rfl) : ET X e ds k := fun m => wt_val (h.to ⟨k, rfl, rfl, rfl⟩) he
/-- truth of a value -/
def TruD (X : Cx) (d : SD) (k : Bool) : Prop := ∀ G v, DS X.K G v d → ∀ H, Ex G H → TruV X.K v H k
theorem et_tru {d : SD} {k : Bool} (h : EE X e ds d) (t : TruD X d k) (he : ∀ whole, isTrue e X.env whole = (do let v ← whole; standAt e.pos; holding [v] (truthy v)) := by intro _; rfl) : ET X e ds k := fun m σ G H E w Q q =>
  oT (pt_truth (pE e) he) (h m σ G H E w _ fun v d' m1 G1 H1 g1 r1 ⟨e1, e2⟩ => by subst e1; exact ⟨k, t _ _ r1 _ g1.wd.w, q _ _ _ _ g1 ⟨rfl, e2⟩⟩)
theorem tru_non : TruD X N0 false := fun G v h H e => by cases ds_non h; rfl
theorem tru_bl {k : Bool} : TruD X (B k) k := fun G v h H e => by cases ds_bl h; rfl
theorem tru_tup {l : List PyData} : TruD X (Tp l) (!l.isEmpty) := fun G v h H e => by
  obtain ⟨a, xs, rfl, h1, h2⟩ := ds_tup h
  refine .inr (.inl ⟨xs, ex_t e h1, ?_⟩)
  cases h2 <;> rfl
theorem tru_lst {l : List PyData} : TruD X (Ls l) (!l.isEmpty) := fun G v h H e => by
  obtain ⟨a, xs, rfl, h1, h2⟩ := ds_lst h
  refine .inl ⟨xs, ex_l e h1, ?_⟩
  cases h2 <;> rfl

/-! ### the same as values -/
theorem ee_one {op} {d : SD} (h : EE X a ds d) : EE X (.BoolOp op [a] pos) ds d := fun m σ G H E w Q q => oE (pe_one (pE a)) (h m σ G H E w Q q)
theorem ee_and {k l : Bool} (h : EE X a ds (B k)) (h2 : k = true → EE X (.BoolOp .And (b :: rest) pos) ds (B l)) : EE X (.BoolOp .And (a :: b :: rest) pos) ds (B (k && l)) := fun m σ G H E w Q q => oE (pe_and (pE a) (pE _)) (by
  refine h m σ G H E w _ fun v d m1 G1 H1 g1 r1 ⟨e1, e2⟩ => ?_
  subst e1 e2
  refine ⟨k, ds_bl r1, ?_⟩
  cases k with
  | true =>
    rw [if_pos rfl]
    exact h2 rfl m1 σ G1 H1 (E.mono g1.g) g1.wd _ fun l' d' m2 G2 H2 g2 r2 ⟨e1, e2⟩ => q _ _ _ _ _ (g1.trans g2) r2 ⟨by rw [e1]; rfl, e2⟩
  | false =>
    rw [if_neg Bool.false_ne_true]
    exact q _ _ _ _ _ g1 (.py (.bl false)) ⟨rfl, rfl⟩)
theorem ee_or {k l : Bool} (h : EE X a ds (B k)) (h2 : k = false → EE X (.BoolOp .Or (b :: rest) pos) ds (B l)) : EE X (.BoolOp .Or (a :: b :: rest) pos) ds (B (k || l)) := fun m σ G H E w Q q => oE (pe_or (pE a) (pE _)) (by
  refine h m σ G H E w _ fun v d m1 G1 H1 g1 r1 ⟨e1, e2⟩ => ?_
  subst e1 e2
  refine ⟨k, ds_bl r1, ?_⟩
  cases k with
  | false =>
    rw [if_neg Bool.false_ne_true]
    exact h2 rfl m1 σ G1 H1 (E.mono g1.g) g1.wd _ fun l' d' m2 G2 H2 g2 r2 ⟨e1, e2⟩ => q _ _ _ _ _ (g1.trans g2) r2 ⟨by rw [e1]; rfl, e2⟩
  | true =>
    rw [if_pos rfl]
    exact q _ _ _ _ _ g1 (.py (.bl true)) ⟨rfl, rfl⟩)
theorem ee_not {k : Bool} (h : EE X a ds (B k)) : EE X (.UnaryOp .Not a pos) ds (B (!k)) := fun m σ G H E w Q q => oE (pe_not (pE a)) (h m σ G H E w _ fun v d m1 G1 H1 g1 r1 ⟨e1, e2⟩ => by
  subst e1
  exact ⟨k, ds_bl r1, q _ _ _ _ _ g1 (.py (.bl _)) ⟨rfl, e2⟩⟩)
/-- a or b, by truth -/
theorem ee_orT {d d2 : SD} {k : Bool} (h : EE X a ds d) (t : TruD X d k) (h2 : k = false → EE X (.BoolOp .Or (b :: rest) pos) ds d2) : EE X (.BoolOp .Or (a :: b :: rest) pos) ds (if k = true then d else d2) := fun m σ G H E w Q q => oE (pe_orT (pE a) (pE _)) (by
  refine h m σ G H E w _ fun v d m1 G1 H1 g1 r1 ⟨e1, e2⟩ => ?_
  subst e1 e2
  refine ⟨k, t _ _ r1 _ g1.wd.w, ?_⟩
  cases k with
  | false =>
    rw [if_neg Bool.false_ne_true]
    exact h2 rfl m1 σ G1 H1 (E.mono g1.g) g1.wd _ fun l' d' m2 G2 H2 g2 r2 ⟨e1, e2⟩ => q _ _ _ _ _ (g1.trans g2) r2 ⟨by rw [e1]; rfl, e2⟩
  | true =>
    rw [if_pos rfl]
    exact q _ _ _ _ _ g1 r1 ⟨rfl, rfl⟩)
/-! ### a if t else b -/
theorem we_if {P : SD → MS → Prop} (h : WT X c ds m fun k m1 => if k = true then WE X a ds m1 P else WE X b ds m1 P) : WE X (.IfExp c a b pos) ds m P := fun σ G H E w Q q => oE (pe_ifExp (pT c) (pE a) (pE b)) (by
  refine h σ G H E w _ fun k m1 G1 H1 g1 p => ?_
  cases k with
  | true =>
    rw [if_pos rfl] at p ⊢
    exact p σ G1 H1 (E.mono g1.g) g1.wd _ fun v d m2 G2 H2 g2 => q v d m2 G2 H2 (g1.trans g2)
  | false =>
    rw [if_neg Bool.false_ne_true] at p ⊢
    exact p σ G1 H1 (E.mono g1.g) g1.wd _ fun v d m2 G2 H2 g2 => q v d m2 G2 H2 (g1.trans g2))
theorem ee_if {k : Bool} {d : SD} (h : ET X c ds k) (h1 : k = true → EE X a ds d) (h2 : k = false → EE X b ds d) : EE X (.IfExp c a b pos) ds d := fun m => we_if (h.to (by
  cases k with
  | true => rw [if_pos rfl]; exact h1 rfl m
  | false => rw [if_neg Bool.false_ne_true]; exact h2 rfl m))
theorem ee_ifc {k : Bool} {d d2 : SD} (h : ET X c ds k) (h1 : k = true → EE X a ds d) (h2 : k = false → EE X b ds d2) : EE X (.IfExp c a b pos) ds (if k = true then d else d2) := ee_if h (fun e => by rw [if_pos e]; exact h1 e) (fun e => by rw [e, if_neg Bool.false_ne_true]; exact h2 e)
/-- both of plain data -/
theorem ee_ifp {k : Bool} {d d2 : PyData} (h : ET X c ds k) (h1 : k = true → EE X a ds (.py d)) (h2 : k = false → EE X b ds (.py d2)) : EE X (.IfExp c a b pos) ds (.py (if k = true then d else d2)) := ee_if h (fun e => by rw [if_pos e]; exact h1 e) (fun e => by rw [e, if_neg Bool.false_ne_true]; exact h2 e)

/-! ### arguments, displays -/
theorem wa_nil {P : List SD → MS → Prop} (p : P [] m) : WA X [] ds m P := fun σ G H E w Q q => oA pa_nil (q _ _ _ _ _ (.refl w) .nil p)
theorem wa_cons {P : List SD → MS → Prop} (h : WE X e ds m fun d m1 => WA X es ds m1 fun xs m2 => P (d :: xs) m2) (hs : starEach (e :: es) X.env = (false, eval e X.env) :: starEach es X.env := by rfl) : WA X (e :: es) ds m P := fun σ G H E w Q q => oA (pa_cons (pE e) (pA es) hs) (by
  refine h σ G H E w _ fun v d m1 G1 H1 g1 r1 p => ?_
  exact p σ G1 H1 (E.mono g1.g) g1.wd _ fun vs xs m2 G2 H2 g2 r2 p => q _ _ _ _ _ (g1.trans g2) (.cons (ds_mono g2.g r1) r2) p)
theorem ea_nil : EA X [] ds [] := fun m => wa_nil ⟨rfl, rfl⟩
theorem ea_cons {d : SD} {xs : List SD} (h : EE X e ds d) (h2 : EA X es ds xs) (hs : starEach (e :: es) X.env = (false, eval e X.env) :: starEach es X.env := by rfl) : EA X (e :: es) ds (d :: xs) := fun m => wa_cons (h.to (h2.to ⟨rfl, rfl⟩)) hs
/-- plain data -/
def EAp (X : Cx) (es : List Expr) (ds : DE) (l : List PyData) : Prop := EA X es ds (l.map .py)
theorem eap_nil : EAp X [] ds [] := ea_nil
theorem eap_cons {d : PyData} {l : List PyData} (h : EE X e ds (.py d)) (h2 : EAp X es ds l) (hs : starEach (e :: es) X.env = (false, eval e X.env) :: starEach es X.env := by rfl) : EAp X (e :: es) ds (d :: l) := ea_cons h h2 hs
theorem dss_py {K : PySem.W.Frag} {G : Hp} : ∀ {l : List PyData} {vs : List V}, DSs K G vs (l.map .py) → DpAll K G vs l
  | [], _, h => by cases h; exact .nil
  | d :: l, _, h => by
    cases h with
    | cons h1 h2 => cases h1 with
      | py h1 => exact .cons h1 (dss_py h2)
theorem py_dss {K : PySem.W.Frag} {G : Hp} : ∀ {l : List PyData} {vs : List V}, DpAll K G vs l → DSs K G vs (l.map .py)
  | [], _, h => by cases h; exact .nil
  | d :: l, _, h => by
    cases h with
    | cons h1 h2 => exact .cons (.py h1) (py_dss h2)
/-- a starred tuple or list amid -/
theorem ea_star {l : List PyData} {xs : List SD} {p : Pos} (h : EE X e ds (Tp l)) (h2 : EA X es ds xs) (hs : starEach (.Starred e p :: es) X.env = (true, eval e X.env) :: starEach es X.env := by rfl) : EA X (.Starred e p :: es) ds (l.map .py ++ xs) := fun m σ G H E w Q q => oA (StX.pa_star (pE e) (pA es) hs) (by
  refine h m σ G H E w _ fun v d m1 G1 H1 g1 r1 ⟨e1, e2⟩ => ?_
  subst e1 e2
  obtain ⟨a, vs, rfl, h1, h3⟩ := ds_tup r1
  refine ⟨a, vs, rfl, .inl (ex_t g1.wd.w h1), ?_⟩
  refine h2 m1 σ G1 H1 (E.mono g1.g) g1.wd _ fun us ys m2 G2 H2 g2 r2 ⟨e1, e2⟩ => ?_
  subst e1 e2
  refine q _ _ _ _ _ (g1.trans g2) ?_ ⟨rfl, rfl⟩
  have app : ∀ {l : List PyData} {vs : List V}, DpAll X.K G2 vs l → DSs X.K G2 (vs ++ us) (l.map SD.py ++ ys) := by
    intro l
    induction l with
    | nil => intro vs h; cases h; exact r2
    | cons d l ih => intro vs h; cases h with | cons a b => exact .cons (.py a) (ih b)
  exact app (dpa_mono g2.g h3))
theorem we_tup {P : SD → MS → Prop} {k} (h : WA X es ds m fun xs m1 => ∃ l, xs = l.map .py ∧ l.length ≤ 1000000 ∧ P (Tp l) m1) : WE X (.Tuple es k pos) ds m P := fun σ G H E w Q q => oE (pe_tup (pA es)) (by
  refine h σ G H E w _ fun vs xs m1 G1 H1 g1 r1 ⟨l, e1, hl, p⟩ => ?_
  subst e1
  have r2 := dss_py r1
  refine ⟨by rw [dpa_length r2]; exact Nat.le_trans hl (by decide), fun a ha => ?_⟩
  have g2 := Gr.new (o := .tup vs) g1.wd ha
  exact q _ _ _ _ _ (g1.trans g2) (.py (.tup (SqT.of upd_same) (dpa_mono g2.g r2))) p)
theorem ee_tup {l : List PyData} {k} (h : EAp X es ds l) (hl : l.length ≤ 1000000 := by first | decide | simp) : EE X (.Tuple es k pos) ds (Tp l) := fun m => we_tup ((h m).mono fun xs m1 ⟨e1, e2⟩ => ⟨l, e1, hl, rfl, e2⟩)
theorem ee_tupX {l : List PyData} {xs : List SD} {k} (h : EA X es ds xs) (e : xs = l.map .py) (hl : l.length ≤ 1000000 := by first | decide | simp) : EE X (.Tuple es k pos) ds (Tp l) := ee_tup (by rw [e] at h; exact h) hl
/-- a list of data -/
theorem we_lst {P : SD → MS → Prop} (h : WA X es ds m fun xs m1 => ∃ l, xs = l.map .py ∧ l.length ≤ 1000000 ∧ P (Ls l) m1) : WE X (.List es pos) ds m P := fun σ G H E w Q q => oE (pe_lst (pA es)) (by
  refine h σ G H E w _ fun vs xs m1 G1 H1 g1 r1 ⟨l, e1, hl, p⟩ => ?_
  subst e1
  have r2 := dss_py r1
  refine ⟨by rw [dpa_length r2]; exact Nat.le_trans hl (by decide), fun a ha => ?_⟩
  have g2 := Gr.new (o := .lst vs) g1.wd ha
  exact q _ _ _ _ _ (g1.trans g2) (.py (.lst (SqL.of upd_same) (dpa_mono g2.g r2))) p)
theorem ee_lst {l : List PyData} (h : EAp X es ds l) (hl : l.length ≤ 1000000 := by first | decide | simp) : EE X (.List es pos) ds (Ls l) := fun m => we_lst ((h m).mono fun xs m1 ⟨e1, e2⟩ => ⟨l, e1, hl, rfl, e2⟩)
/-- a list that is owned from here on -/
theorem we_lstO {P : SD → MS → Prop} (h : WA X es ds m fun xs m1 => ∃ l, xs = l.map .py ∧ l.length ≤ 1000000 ∧ ∀ p, P (.raw (.ref p)) ((p, .dl l) :: m1)) : WE X (.List es pos) ds m P := fun σ G H E w Q q => oE (pe_lst (pA es)) (by
  refine h σ G H E w _ fun vs xs m1 G1 H1 g1 r1 ⟨l, e1, hl, p⟩ => ?_
  subst e1
  have r2 := dss_py r1
  refine ⟨by rw [dpa_length r2]; exact Nat.le_trans hl (by decide), fun a ha => ?_⟩
  have g2 := Gr.made (o := .lst vs) (v := .dl l) g1.wd ha ⟨vs, rfl, r2⟩
  exact q _ _ _ _ _ (g1.trans g2) (.raw _) (p a))

/-! ### subscripts, slices -/
theorem we_sub {P : SD → MS → Prop} (h : WE X a ds m fun x m1 => WE X b ds m1 fun y m2 => ∃ z, SubD X m2 x y z ∧ P z m2) (hs : PlainIx b := by exact fun _ _ => rfl) : WE X (.Subscript a b pos) ds m P := fun σ G H E w Q q => by
  intro pins s I
  refine Subscript_ (binT (pE a) (pE b) (R := fun v u H2 => ∃ r, IxR X r ∧ r v u H2 Q) I ?_ fun v u s2 x y H2 I2 rx ry ⟨r, ho, hr⟩ => ho a b pins s2 σ H2 x y v u Q I2 rx ry hr (hs _ _))
  refine h σ G H E w _ fun v x m1 G1 H1 g1 r1 p1 => p1 σ G1 H1 (E.mono g1.g) g1.wd _ fun u y m2 G2 H2 g2 r2 ⟨z, ⟨r, ho, hr⟩, p⟩ => ⟨r, ho, ?_⟩
  exact hr G2 H2 v u g2.wd (ds_mono g2.g r1) r2 Q fun w' G3 H3 g3 r3 => q w' z m2 G3 H3 ((g1.trans g2).trans g3) r3 p
theorem ee_sub {x y z : SD} (ha : EE X a ds x) (hb : EE X b ds y) (hr : ∀ m, SubD X m x y z) (hs : PlainIx b := by exact fun _ _ => rfl) : EE X (.Subscript a b pos) ds z := fun m => we_sub (ha.to (hb.to ⟨z, hr m, rfl, rfl⟩)) hs
def EO (X : Cx) (e : Option Expr) (ds : DE) (o : Option Int) : Prop := ∀ m, WO X e ds m fun o' m' => o' = o ∧ m' = m
theorem eo_none : EO X none ds none := fun m σ G H E w Q q pins s I => po_none.run pins s σ H Q I (q _ _ _ _ (.refl w) ⟨rfl, rfl⟩)
theorem eo_some {i : Int} (h : EE X e ds (PySem.PyData.int i |> SD.py)) : EO X (some e) ds (some i) := fun m σ G H E w Q q pins s J => (po_some (pE e)).run pins s σ H Q J (h m σ G H E w _ fun v d m1 G1 H1 g1 r1 ⟨e1, e2⟩ => by
  subst e1
  exact ⟨i, ds_int r1, q _ _ _ _ g1 ⟨rfl, e2⟩⟩)
def SlD (X : Cx) (m : MS) (x : SD) (lo hi : Option Int) (z : SD) : Prop := ∃ r, SlR X r ∧ ∀ G H v, Wd X.K m G H → DS X.K G v x → ∀ Q : VK, (∀ w G' H', Gr X.K m m G H G' H' → DS X.K G' w z → Q w H') → r v lo hi H Q
theorem we_slice {lo hi : Option Expr} {l u : Option Int} {P : SD → MS → Prop} {p2 : Pos} (h : WE X e ds m fun x m1 => ∃ z, SlD X m1 x l u z ∧ P z m1) (h1 : EO X lo ds l) (h2 : EO X hi ds u) : WE X (.Subscript e (.Slice lo hi none p2) pos) ds m P := fun σ G H E w Q q => by
  have p : PE X (.Subscript e (.Slice lo hi none p2) pos) (tSl (fun v l u H Q => ∃ r, SlR X r ∧ r v l u H Q) (wE X e) (wP X lo) (wP X hi)) :=
      pe_slice (fun pins s σ H x v vl vu lo hi sl Q I rx hs pl pu ⟨r, hr, q⟩ => hr pins s σ H x v vl vu lo hi sl Q I rx hs pl pu q) (pE e) (pO lo) (pO hi)
  refine oE p ?_
  refine h σ G H E w _ fun v x m1 G1 H1 g1 r1 ⟨z, ⟨r, hr, hz⟩, p⟩ => ?_
  refine h1 m1 σ G1 H1 (E.mono g1.g) g1.wd _ fun l' m2 G2 H2 g2 ⟨e1, e2⟩ => ?_
  subst e1 e2
  refine h2 m2 σ G2 H2 (E.mono (g1.trans g2).g) g2.wd _ fun u' m3 G3 H3 g3 ⟨e1, e2⟩ => ?_
  subst e1 e2
  exact ⟨r, hr, hz G3 H3 v g3.wd (ds_mono (g2.trans g3).g r1) Q fun w' G4 H4 g4 r4 => q w' z _ G4 H4 (((g1.trans g2).trans g3).trans g4) r4 p⟩
theorem ee_slice {lo hi : Option Expr} {l u : Option Int} {x z : SD} {p2 : Pos} (h : EE X e ds x) (h1 : EO X lo ds l) (h2 : EO X hi ds u) (hz : ∀ m, SlD X m x l u z) : EE X (.Subscript e (.Slice lo hi none p2) pos) ds z := fun m => we_slice (h.to ⟨z, hz m, rfl, rfl⟩) h1 h2

/-! ### calls of what is built in -/
def CaD (X : Cx) (f : Value) (m : MS) (xs : List SD) (z : SD) : Prop := ∃ r, CallR X f r ∧ ∀ G H vs, Wd X.K m G H → DSs X.K G vs xs → ∀ Q : VK, (∀ w G' H', Gr X.K m m G H G' H' → DS X.K G' w z → Q w H') → r vs H Q
theorem we_callB {x : Str} {id : String} {p : Pos} {P : SD → MS → Prop} (h : WA X (e :: es) ds m fun xs m1 => ∃ z, CaD X (.builtin id) m1 xs z ∧ P z m1) (hm : X.mg x = none) (hv : bootBuiltins x = some (.builtin id)) (hg : Gl X x := by rfl) (hn : x ≠ "__name__" := by decide) (hdb : (x == ("__debug__" : Str)) = false := by decide)
    (he : starEach (e :: es) X.env = (false, eval e X.env) :: starEach es X.env := by rfl) (hpl : (backTo pos (starEach es X.env)).any (·.1) = false := by rfl) : WE X (.Call (.Name x p) (e :: es) [] pos) ds m P := fun σ G H E w Q q => by
  have c : CallR X (.builtin id) (fun vs H Q => ∃ r, CallR X (.builtin id) r ∧ r vs H Q) := fun pins s σ H xs us Q I r ⟨r', h1, h2⟩ => h1 pins s σ H xs us Q I r h2
  refine oE (pe_callB c hg hm hv (pA (e :: es)) hn hdb he hpl) (h σ G H E w _ fun vs xs m1 G1 H1 g1 r1 ⟨z, ⟨r, hr, hz⟩, p⟩ => ⟨r, hr, ?_⟩)
  exact hz G1 H1 vs g1.wd r1 Q fun w' G4 H4 g4 r4 => q w' z _ G4 H4 (g1.trans g4) r4 p
theorem we_callTy {x : Str} {id : String} {p : Pos} {P : SD → MS → Prop} (h : WA X (e :: es) ds m fun xs m1 => ∃ z, CaD X (.type id) m1 xs z ∧ P z m1) (hm : X.mg x = none) (hv : bootBuiltins x = some (.type id)) (hg : Gl X x := by rfl) (hn : x ≠ "__name__" := by decide) (hdb : (x == ("__debug__" : Str)) = false := by decide)
    (he : starEach (e :: es) X.env = (false, eval e X.env) :: starEach es X.env := by rfl) (hpl : (backTo pos (starEach es X.env)).any (·.1) = false := by rfl) : WE X (.Call (.Name x p) (e :: es) [] pos) ds m P := fun σ G H E w Q q => by
  have c : CallR X (.type id) (fun vs H Q => ∃ r, CallR X (.type id) r ∧ r vs H Q) := fun pins s σ H xs us Q I r ⟨r', h1, h2⟩ => h1 pins s σ H xs us Q I r h2
  refine oE (pe_callTy c hg hm hv (pA (e :: es)) hn hdb he hpl) (h σ G H E w _ fun vs xs m1 G1 H1 g1 r1 ⟨z, ⟨r, hr, hz⟩, p⟩ => ⟨r, hr, ?_⟩)
  exact hz G1 H1 vs g1.wd r1 Q fun w' G4 H4 g4 r4 => q w' z _ G4 H4 (g1.trans g4) r4 p
theorem ee_callB {x : Str} {id : String} {p : Pos} {xs : List SD} {z : SD} (h : EA X (e :: es) ds xs) (hc : ∀ m, CaD X (.builtin id) m xs z) (hm : X.mg x = none) (hv : bootBuiltins x = some (.builtin id)) (hg : Gl X x := by rfl) (hn : x ≠ "__name__" := by decide) (hdb : (x == ("__debug__" : Str)) = false := by decide)
    (he : starEach (e :: es) X.env = (false, eval e X.env) :: starEach es X.env := by rfl) (hpl : (backTo pos (starEach es X.env)).any (·.1) = false := by rfl) : EE X (.Call (.Name x p) (e :: es) [] pos) ds z := fun m => we_callB (h.to ⟨z, hc m, rfl, rfl⟩) hm hv hg hn hdb he hpl
theorem ee_callTy {x : Str} {id : String} {p : Pos} {xs : List SD} {z : SD} (h : EA X (e :: es) ds xs) (hc : ∀ m, CaD X (.type id) m xs z) (hm : X.mg x = none) (hv : bootBuiltins x = some (.type id)) (hg : Gl X x := by rfl) (hn : x ≠ "__name__" := by decide) (hdb : (x == ("__debug__" : Str)) = false := by decide)
    (he : starEach (e :: es) X.env = (false, eval e X.env) :: starEach es X.env := by rfl) (hpl : (backTo pos (starEach es X.env)).any (·.1) = false := by rfl) : EE X (.Call (.Name x p) (e :: es) [] pos) ds z := fun m => we_callTy (h.to ⟨z, hc m, rfl, rfl⟩) hm hv hg hn hdb he hpl
/-- a method of a built-in type -/
def MtD (X : Cx) (T id : String) (m : MS) (x : SD) (xs : List SD) (z : SD) : Prop := (∀ G H v, Wd X.K m G H → DS X.K G v x → tyV X.K T v H) ∧ ∃ r, MtR X id r ∧ ∀ G H v vs, Wd X.K m G H → DS X.K G v x → DSs X.K G vs xs → ∀ Q : VK, (∀ w G' H', Gr X.K m m G H G' H' → DS X.K G' w z → Q w H') → r v vs H Q
theorem we_meth {o : Expr} {name : Str} {apos cpos : Pos} {T id : String} {x : SD} {P : SD → MS → Prop} (pa : PlainAttrs T) (slot : Slot T name id) (hty : typeOf (.builtin id) = pure (.type "method_descriptor")) (ho : EE X o ds x) (ht : ∀ m G H v, Wd X.K m G H → DS X.K G v x → tyV X.K T v H)
    (ha : WA X (e :: es) ds m fun xs m1 => ∃ z, MtD X T id m1 x xs z ∧ P z m1)
    (hbase : attributeBase o name X.env (eval o X.env) = eval o X.env := by rfl)
    (hfew : ((backTo cpos (starEach (e :: es) X.env)).all (fun x => !x.1) && (backToKw cpos (keywordEach [] X.env)).all (fun x => x.1.isSome)
      && decide ((e :: es).length + ([] : List Keyword).length + (if ([] : List Keyword).isEmpty then 0 else 1) < 30)) = true := by rfl)
    (hline : (apos.endLine == cpos.line) = true := by rfl) (hs : starEach (e :: es) X.env = (false, eval e X.env) :: starEach es X.env := by rfl) (hplain : (backTo cpos (starEach es X.env)).any (·.1) = false := by rfl) : WE X (.Call (.Attribute o name apos) (e :: es) [] cpos) ds m P := fun σ G H E w Q q => by
  have c : MtR X id (fun v vs H Q => ∃ r, MtR X id r ∧ r v vs H Q) := fun pins s σ H x xs v us Q I rx rs ⟨r, h1, h2⟩ => h1 pins s σ H x xs v us Q I rx rs h2
  refine oE (pe_bm pa slot hty c (pE o) (pA (e :: es)) hbase hfew hline hs hplain) (ho m σ G H E w _ fun v d m1 G1 H1 g1 r1 ⟨e1, e2⟩ => ?_)
  subst e1 e2
  refine ⟨ht _ _ _ _ g1.wd r1, ?_⟩
  refine ha σ G1 H1 (E.mono g1.g) g1.wd _ fun vs xs m2 G2 H2 g2 r2 ⟨z, ⟨ht, r, hr, hz⟩, p⟩ => ⟨r, hr, ?_⟩
  exact hz G2 H2 v vs g2.wd (ds_mono g2.g r1) r2 Q fun w' G4 H4 g4 r4 => q w' z _ G4 H4 ((g1.trans g2).trans g4) r4 p
theorem ee_meth {o : Expr} {name : Str} {apos cpos : Pos} {T id : String} {x : SD} {xs : List SD} {z : SD} (pa : PlainAttrs T) (slot : Slot T name id) (hty : typeOf (.builtin id) = pure (.type "method_descriptor")) (ho : EE X o ds x) (ha : EA X (e :: es) ds xs) (hz : ∀ m, MtD X T id m x xs z)
    (hbase : attributeBase o name X.env (eval o X.env) = eval o X.env := by rfl)
    (hfew : ((backTo cpos (starEach (e :: es) X.env)).all (fun x => !x.1) && (backToKw cpos (keywordEach [] X.env)).all (fun x => x.1.isSome)
      && decide ((e :: es).length + ([] : List Keyword).length + (if ([] : List Keyword).isEmpty then 0 else 1) < 30)) = true := by rfl)
    (hline : (apos.endLine == cpos.line) = true := by rfl) (hs : starEach (e :: es) X.env = (false, eval e X.env) :: starEach es X.env := by rfl) (hplain : (backTo cpos (starEach es X.env)).any (·.1) = false := by rfl) : EE X (.Call (.Attribute o name apos) (e :: es) [] cpos) ds z := fun m =>
  we_meth pa slot hty ho (fun m => (hz m).1) (ha.to ⟨z, hz m, rfl, rfl⟩) hbase hfew hline hs hplain
theorem ee_meth0 {o : Expr} {name : Str} {apos cpos : Pos} {T id : String} {x : SD} {z : SD} (pa : PlainAttrs T) (slot : Slot T name id) (hty : typeOf (.builtin id) = pure (.type "method_descriptor")) (ho : EE X o ds x) (hz : ∀ m, MtD X T id m x [] z)
    (hbase : attributeBase o name X.env (eval o X.env) = eval o X.env := by rfl) (hline : (apos.endLine == cpos.line) = true := by rfl) : EE X (.Call (.Attribute o name apos) [] [] cpos) ds z := fun m σ G H E w Q q => by
  have c : MtR X id (fun v vs H Q => ∃ r, MtR X id r ∧ r v vs H Q) := fun pins s σ H x xs v us Q I rx rs ⟨r, h1, h2⟩ => h1 pins s σ H x xs v us Q I rx rs h2
  refine oE (pe_bm0 pa slot hty c (pE o) hbase hline) (ho m σ G H E w _ fun v d m1 G1 H1 g1 r1 ⟨e1, e2⟩ => ?_)
  subst e1 e2
  obtain ⟨ht, r, hr, hz'⟩ := hz m1
  refine ⟨ht _ _ _ g1.wd r1, r, hr, ?_⟩
  exact hz' G1 H1 v [] g1.wd r1 .nil Q fun w' G4 H4 g4 r4 => q w' z _ G4 H4 (g1.trans g4) r4 ⟨rfl, rfl⟩

/-! ### calls of the text's own defs -/
abbrev FT := List SD → MS → (SD → MS → Prop) → Prop
def SpD (K : PySem.W.Frag) (F : FT) : Sp := fun vs H Q _ => ∃ G m ds P, Wd K m G H ∧ DSs K G vs ds ∧ F ds m P ∧ ∀ v d m' G' H', Gr K m m' G H G' H' → DS K G' v d → P d m' → Q v H'
/-- a def that is a function of plain data -/
def pureF (R : List SD → SD → Prop) : FT := fun ds m P => ∃ d, R ds d ∧ P d m
theorem we_call {k : Nat} {f : Addr} {fd : FuncData} {ps : List Str} {F : FT} {x : Str} {p : Pos} {fr : MS} {P : SD → MS → Prop} (FO : FnOk X.prog X.w X.K X.mg X.base CX0 k f fd ps (SpD X.K F)) (hr : Room k X.A) (hm : X.mg x = some (.ref f)) (hk : PySem.W.keepIn X.K (.ref f) = true) (hb : Binds X.K fd ps [])
    (h : WA X (e :: es) ds m fun xs m1 => ∃ fr mc, m1 = fr ++ mc ∧ F xs mc fun d m2 => P d (fr ++ m2)) (hg : Gl X x := by rfl) (hdb : (x == ("__debug__" : Str)) = false := by decide)
    (he : starEach (e :: es) X.env = (false, eval e X.env) :: starEach es X.env := by rfl) (hpl : (backTo pos (starEach es X.env)).any (·.1) = false := by rfl) : WE X (.Call (.Name x p) (e :: es) [] pos) ds m P := fun σ G H E w Q q => by
  refine oE (pe_call FO hr hg hm hk hb .nil pass0 (pA (e :: es)) hdb he hpl) (h σ G H E w _ fun vs xs m1 G1 H1 g1 r1 ⟨fr, mc, e1, hF⟩ => ?_)
  subst e1
  show SpD X.K F (vs ++ []) H1 Q E0
  rw [List.append_nil]
  exact ⟨G1, mc, xs, _, g1.wd.sub, r1, hF, fun v d m' G' H' g2 r2 p => q v d _ G' H' (g1.trans (Gr.frame g1.wd g2)) r2 p⟩
theorem ee_call {k : Nat} {f : Addr} {fd : FuncData} {ps : List Str} {R : List SD → SD → Prop} {x : Str} {p : Pos} {xs : List SD} {z : SD} (FO : FnOk X.prog X.w X.K X.mg X.base CX0 k f fd ps (SpD X.K (pureF R))) (hr : Room k X.A) (hm : X.mg x = some (.ref f)) (hk : PySem.W.keepIn X.K (.ref f) = true) (hb : Binds X.K fd ps [])
    (h : EA X (e :: es) ds xs) (hz : R xs z) (hg : Gl X x := by rfl) (hdb : (x == ("__debug__" : Str)) = false := by decide)
    (he : starEach (e :: es) X.env = (false, eval e X.env) :: starEach es X.env := by rfl) (hpl : (backTo pos (starEach es X.env)).any (·.1) = false := by rfl) : EE X (.Call (.Name x p) (e :: es) [] pos) ds z := fun m =>
  we_call (fr := []) FO hr hm hk hb (h.to ⟨m, [], (List.append_nil m).symm, z, hz, rfl, List.append_nil m⟩) hg hdb he hpl
end
end W9
namespace W9
open PySem PySem.Spec PyProof.Rows L2
/-! ### slots -/
section
variable {K : PySem.W.Frag} {G G' : Hp} {σ : L2.St} {ds : DE}
theorem EnvD.unset (E : EnvD K G σ ds) (i : Nat) : EnvD K G (σ.set i none) (ds.set i none) := by
  refine ⟨by rw [List.length_set, List.length_set]; exact E.1, fun j e he => ?_⟩
  by_cases hj : i = j
  · subst hj
    by_cases hl : i < ds.length
    · rw [List.getElem?_set_self hl] at he; cases he
    · rw [List.getElem?_eq_none (by rw [List.length_set]; omega)] at he; cases he
  · rw [List.getElem?_set_ne hj] at he ⊢
    exact E.2 j e he
theorem EnvD.retype (E : EnvD K G σ ds) {i : Nat} {v : V} {d : SD} (hv : σ[i]? = some (some v)) (h : DS K G v d) : EnvD K G σ (ds.set i (some d)) := by
  have z := E.set (i := i) h
  have e : σ.set i (some v) = σ := by
    refine List.ext_getElem? fun j => ?_
    by_cases hj : i = j
    · subst hj
      rw [List.getElem?_set_self (List.getElem?_eq_some_iff.mp hv).1, hv]
    · rw [List.getElem?_set_ne hj]
  rw [e] at z
  exact z
def wipeD (ds : DE) : List Nat → DE
  | [] => ds
  | v :: vs => (wipeD ds vs).set v none
theorem EnvD.wipe (E : EnvD K G σ ds) : ∀ vs : List Nat, EnvD K G (L2.wipe σ vs) (wipeD ds vs)
  | [] => E
  | v :: vs => (EnvD.wipe E vs).unset v
end
theorem wipe_get (σ : L2.St) : ∀ (vs : List Nat) (i : Nat), i ∉ vs → (L2.wipe σ vs)[i]? = σ[i]?
  | [], i, _ => rfl
  | v :: vs, i, h => by
    have h1 : v ≠ i := fun e => h (by rw [e]; exact List.mem_cons_self)
    show ((L2.wipe σ vs).set v none)[i]? = _
    rw [List.getElem?_set_ne h1]
    exact wipe_get σ vs i fun z => h (List.mem_cons_of_mem _ z)
theorem wipe_in (σ : L2.St) : ∀ (vs : List Nat) (i : Nat), i ∈ vs → (L2.wipe σ vs)[i]? = if i < σ.length then some none else none
  | v :: vs, i, h => by
    show ((L2.wipe σ vs).set v none)[i]? = _
    by_cases e : v = i
    · subst e
      by_cases hl : v < σ.length
      · rw [if_pos hl, List.getElem?_set_self (by rw [L2.wipe_length]; exact hl)]
      · rw [if_neg hl, List.getElem?_eq_none (by rw [List.length_set, L2.wipe_length]; omega)]
    · rw [List.getElem?_set_ne e]
      rcases List.mem_cons.mp h with z | z
      · exact absurd z.symm e
      · exact wipe_in σ vs i z
theorem wipe_same {σ σ2 : L2.St} {vs : List Nat} (hl : σ2.length = σ.length) (h : ∀ i, i ∉ vs → σ2[i]? = (L2.wipe σ vs)[i]?) : L2.wipe σ2 vs = L2.wipe σ vs := by
  refine List.ext_getElem? fun i => ?_
  by_cases hi : i ∈ vs
  · rw [wipe_in _ _ _ hi, wipe_in _ _ _ hi, hl]
  · rw [wipe_get _ _ _ hi, h i hi]

section
variable {X : Cx} {ds : DE} {m : MS} {e a b c : Expr} {es rest : List Expr} {pos : Pos}
/-! ### targets -/
theorem wg_name {i : Nat} {x : Str} {d : SD} {P : DE → MS → Prop} (p : P (ds.set i (some d)) m) (hN : X.N.Nodup) (hi : X.N[i]? = some x := by rfl) (hx : Loc X.env.scope x := by first | exact Or.inl rfl | exact Or.inr rfl)
    (hf : X.fn x = true ∨ X.env.scope.names.lookup x = some .local := by first | exact .inl rfl | exact .inr rfl | assumption) : WG X (.Name x pos) [i] d ds m P := fun σ G H v E w r Q q =>
  oG (pg_name hN hi hx hf) (q _ _ _ _ _ (.refl w) (E.set r) ⟨fun j hj => by rw [List.getElem?_set_ne (fun z => hj (by rw [z]; exact List.mem_cons_self))], List.length_set ..⟩ p)
theorem wgs_nil {P : DE → MS → Prop} (p : P ds m) : WGs X [] [] [] ds m P := fun σ G H vs E w r Q q => oG' (by cases r; exact ⟨rfl, q _ _ _ _ _ (.refl w) E ⟨fun _ _ => rfl, rfl⟩ p⟩)
  where oG' {vs : List V} {σ : L2.St} {H : Hp} {Q : L2.St → Hp → Prop} (h : gNil vs σ H Q) : wGs X [] vs σ H Q := fun pins s u I r => pgs_nil.run pins s σ H vs u Q I r h
theorem wgs_cons {tg : Expr} {tgs : List Expr} {js ks : List Nat} {d : SD} {xs : List SD} {P : DE → MS → Prop} (h : WG X tg js d ds m fun ds1 m1 => WGs X tgs ks xs ds1 m1 P)
    (hs : (assignEach (tg :: tgs) X.env).map (·.2) = assign tg X.env :: (assignEach tgs X.env).map (·.2) := by rfl) : WGs X (tg :: tgs) (js ++ ks) (d :: xs) ds m P := fun σ G H vs E w r Q q => by
  intro pins s us I ru
  cases r with
  | cons r1 r2 =>
    refine (pgs_cons (pG tg) (pGs tgs) hs).run pins s σ H _ us Q I ru ⟨_, _, rfl, ?_⟩
    refine h σ G H _ E w r1 _ fun σ1 ds1 m1 G1 H1 g1 E1 k1 p1 => ?_
    exact p1 σ1 G1 H1 _ E1 g1.wd (dss_mono g1.g r2) Q fun σ2 ds2 m2 G2 H2 g2 E2 k2 p2 => q σ2 ds2 m2 G2 H2 (g1.trans g2) E2 ⟨fun i hi => (k2.1 i fun z => hi (List.mem_append_right _ z)).trans (k1.1 i fun z => hi (List.mem_append_left _ z)), k2.2.trans k1.2⟩ p2
theorem wg_tup {tgs : List Expr} {js : List Nat} {l : List PyData} {k : Nat} {P : DE → MS → Prop} (h : WGs X tgs js (l.map .py) ds m P) (hc : X.calm = true := by rfl)
    (hn : (assignEach tgs X.env).length = l.length := by rfl) (hst : (assignEach tgs X.env).findIdx? (·.1) = none := by rfl) : WG X (.Tuple tgs k pos) js (Tp l) ds m P := fun σ G H v E w r Q q => by
  obtain ⟨a, xs, rfl, h1, h2⟩ := ds_tup r
  exact oG (pg_tup hc (pGs tgs) rfl hst) ⟨a, xs, rfl, ex_t w.w h1, by rw [hn, dpa_length h2], h σ G H xs E w (py_dss h2) Q q⟩
theorem wg_lst {tgs : List Expr} {js : List Nat} {l : List PyData} {k : Nat} {P : DE → MS → Prop} (h : WGs X tgs js (l.map .py) ds m P) (hc : X.calm = true := by rfl)
    (hn : (assignEach tgs X.env).length = l.length := by rfl) (hst : (assignEach tgs X.env).findIdx? (·.1) = none := by rfl) : WG X (.Tuple tgs k pos) js (Ls l) ds m P := fun σ G H v E w r Q q => by
  obtain ⟨a, xs, rfl, h1, h2⟩ := ds_lst r
  exact oG (pg_unl hc (pGs tgs) rfl hst) ⟨a, xs, rfl, ex_l w.w h1, by rw [hn, dpa_length h2], h σ G H xs E w (py_dss h2) Q q⟩

/-! ### statements -/
theorem wss_nil {E : ED} (p : E.nx ds m) : WSs X [] ds m E := fun σ G H e w D k => oSs pss_nil (k.nx _ _ _ _ _ (.refl w) e p)
theorem wss_cons {st : Stmt} {sts : List Stmt} {E : ED} (h : WS X st ds m { E with nx := fun ds1 m1 => WSs X sts ds1 m1 E }) : WSs X (st :: sts) ds m E := fun σ G H e w D k => oSs (pss_cons (pS st) (pSs sts))
  (h σ G H e w { D with nx := wSs X sts D } ⟨fun σ' ds' m' G' H' g e' p => p σ' G' H' e' g.wd D (k.after g), k.rt, k.bk, k.ct⟩)
theorem wss_one {st : Stmt} {E : ED} (h : WS X st ds m E) : WSs X [st] ds m E := fun σ G H e w D k => oSs (pss_one (pS st)) (h σ G H e w D k)
theorem ws_asg {tg : Expr} {js : List Nat} {E : ED} (h : WE X e ds m fun d m1 => WG X tg js d ds m1 E.nx) (hs : swapsWithSole [tg] e pos.line X.env = pure false := by rfl) (hw : swappedStores [tg] e X.env = pure none := by rfl)
    (h1 : (assignEach [tg] X.env).map (·.2) = [assign tg X.env] := by rfl) : WS X (.Assign [tg] e pos) ds m E := fun σ G H e0 w D k => oS (ps_asg (pE e) (pG tg) hs hw h1)
  (h σ G H e0 w _ fun v d m1 G1 H1 g1 r1 p => p σ G1 H1 v (e0.mono g1.g) g1.wd r1 _ fun σ' ds' m' G' H' g' e' _ q => k.nx _ _ _ _ _ (g1.trans g') e' q)
theorem ws_set {i : Nat} {x : Str} {pos' : Pos} {E : ED} (hN : X.N.Nodup) (h : WE X e ds m fun d m1 => E.nx (ds.set i (some d)) m1) (hi : X.N[i]? = some x := by rfl) (hx : Loc X.env.scope x := by first | exact Or.inl rfl | exact Or.inr rfl)
    (hs : swapsWith e (some (.Name x pos')) pos.line X.env = pure false := by rfl) (hf : X.fn x = true ∨ X.env.scope.names.lookup x = some .local := by first | exact .inl rfl | exact .inr rfl | assumption) : WS X (.Assign [.Name x pos'] e pos) ds m E := fun σ G H e0 w D k =>
  oS (ps_set hN hi hx (pE e) hs hf) (h σ G H e0 w _ fun v d m1 G1 H1 g1 r1 p => k.nx _ _ _ _ _ g1 ((e0.mono g1.g).set r1) p)
theorem ws_par {i j : Nat} {x y : Str} {px py pt : Pos} {kt k2 pt2} {E : ED} (hN : X.N.Nodup) (h : WA X [a, b] ds m fun xs m1 => ∃ d d2, xs = [d, d2] ∧ E.nx ((ds.set i (some d)).set j (some d2)) m1) (hi : X.N[i]? = some x := by rfl) (hj : X.N[j]? = some y := by rfl) (hij : i ≠ j := by decide)
    (hx : X.env.scope.names.lookup x = some .local := by rfl) (hy : X.env.scope.names.lookup y = some .local := by rfl) (hc : X.calm = true := by rfl)
    (hw : swappedStores [.Tuple [.Name x px, .Name y py] kt pt] (.Tuple [a, b] k2 pt2) X.env = pure (some [x, y]) := by rfl)
    (hs : swapsWithSole [.Tuple [.Name x px, .Name y py] kt pt] (.Tuple [a, b] k2 pt2) pos.line X.env = pure false := by rfl) :
    WS X (.Assign [.Tuple [.Name x px, .Name y py] kt pt] (.Tuple [a, b] k2 pt2) pos) ds m E := fun σ G H e0 w D k => oS (ps_par hc hN hi hj hij hx hy (pA [a, b]) hw hs)
  (h σ G H e0 w _ fun vs xs m1 G1 H1 g1 r1 ⟨d, d2, e1, p⟩ => by
    subst e1
    cases r1 with
    | cons r1 r2 => cases r2 with
      | cons r2 r3 =>
        cases r3
        exact ⟨_, _, rfl, k.nx _ _ _ _ _ g1 (((e0.mono g1.g).set r1).set r2) p⟩)
theorem ws_par3 {i j l : Nat} {x y z : Str} {px py pz pt : Pos} {kt k2 pt2} {E : ED} (hN : X.N.Nodup) (h : WA X [a, b, c] ds m fun xs m1 => ∃ d d2 d3, xs = [d, d2, d3] ∧ E.nx (((ds.set i (some d)).set j (some d2)).set l (some d3)) m1) (hi : X.N[i]? = some x := by rfl) (hj : X.N[j]? = some y := by rfl) (hl : X.N[l]? = some z := by rfl)
    (hij : i ≠ j := by decide) (hil : i ≠ l := by decide) (hjl : j ≠ l := by decide)
    (hx : X.env.scope.names.lookup x = some .local := by rfl) (hy : X.env.scope.names.lookup y = some .local := by rfl) (hz : X.env.scope.names.lookup z = some .local := by rfl) (hc : X.calm = true := by rfl)
    (hw : swappedStores [.Tuple [.Name x px, .Name y py, .Name z pz] kt pt] (.Tuple [a, b, c] k2 pt2) X.env = pure (some [x, y, z]) := by rfl)
    (hs : swapsWithSole [.Tuple [.Name x px, .Name y py, .Name z pz] kt pt] (.Tuple [a, b, c] k2 pt2) pos.line X.env = pure false := by rfl) :
    WS X (.Assign [.Tuple [.Name x px, .Name y py, .Name z pz] kt pt] (.Tuple [a, b, c] k2 pt2) pos) ds m E := fun σ G H e0 w D k => oS (ps_par3 hc hN hi hj hl hij hil hjl hx hy hz (pA [a, b, c]) hw hs)
  (h σ G H e0 w _ fun vs xs m1 G1 H1 g1 r1 ⟨d, d2, d3, e1, p⟩ => by
    subst e1
    cases r1 with
    | cons r1 r2 => cases r2 with
      | cons r2 r3 => cases r3 with
        | cons r3 r4 =>
          cases r4
          exact ⟨_, _, _, rfl, k.nx _ _ _ _ _ g1 ((((e0.mono g1.g).set r1).set r2).set r3) p⟩)
theorem ws_ret {E : ED} (h : WE X e ds m E.rt) : WS X (.Return (some e) pos) ds m E := fun σ G H e0 w D k => oS (ps_ret (pE e)) (h σ G H e0 w _ fun v d m1 G1 H1 g1 r1 p => k.rt _ _ _ _ _ g1 r1 p)
theorem ws_retN {E : ED} (h : E.rt N0 m) : WS X (.Return none pos) ds m E := fun σ G H e0 w D k => oS ps_retN (k.rt _ _ _ _ _ (.refl w) (.py .non) h)
theorem ws_if {t f : List Stmt} {E : ED} (h : WT X c ds m fun k m1 => if k = true then WSs X t ds m1 E else WSs X f ds m1 E) : WS X (.If c t f pos) ds m E := fun σ G H e0 w D k => oS (ps_if (pT c) (pSs t) (pSs f)) (by
  refine h σ G H e0 w _ fun kk m1 G1 H1 g1 p => ?_
  cases kk with
  | true =>
    rw [if_pos rfl] at p ⊢
    exact p σ G1 H1 (e0.mono g1.g) g1.wd D (k.after g1)
  | false =>
    rw [if_neg Bool.false_ne_true] at p ⊢
    exact p σ G1 H1 (e0.mono g1.g) g1.wd D (k.after g1))
theorem ws_ife {t f : List Stmt} {k : Bool} {E : ED} (h : ET X c ds k) (h1 : k = true → WSs X t ds m E) (h2 : k = false → WSs X f ds m E) : WS X (.If c t f pos) ds m E := ws_if (h.to (by
  cases k with
  | true => rw [if_pos rfl]; exact h1 rfl
  | false => rw [if_neg Bool.false_ne_true]; exact h2 rfl))
theorem ws_pass {E : ED} (p : E.nx ds m) : WS X (.Pass pos) ds m E := fun σ G H e w D k => oS ps_pass (k.nx _ _ _ _ _ (.refl w) e p)
theorem ws_break {E : ED} (p : E.bk ds m) : WS X (.Break pos) ds m E := fun σ G H e w D k => oS ps_break (k.bk _ _ _ _ _ (.refl w) e p)
theorem ws_continue {E : ED} (p : E.ct ds m) : WS X (.Continue pos) ds m E := fun σ G H e w D k => oS ps_continue (k.ct _ _ _ _ _ (.refl w) e p)
theorem ws_expr {E : ED} (h : WE X e ds m fun _ m1 => E.nx ds m1) (hs : swapsWith e none pos.line X.env = pure false := by rfl) : WS X (.Expr e pos) ds m E := fun σ G H e0 w D k => oS (ps_expr (pE e) hs) (h σ G H e0 w _ fun v d m1 G1 H1 g1 r1 p => k.nx _ _ _ _ _ g1 (e0.mono g1.g) p)
/-- what is owned: an item, a store, an append -/
theorem own_get {K : PySem.W.Frag} {G H : Hp} {p : Addr} {l : List PyData} (w : Wd K m G H) (h : (p, OV.dl l) ∈ m) : ∃ vs, H p = some (.lst vs) ∧ DpAll K G vs l := by
  obtain ⟨_, o, h1, vs, h2, h3⟩ := w.own _ h
  subst h2
  exact ⟨vs, h1, h3⟩
theorem sub_own {p : Addr} {l : List PyData} {i : Int} {d : PyData} (h : (p, OV.dl l) ∈ m) (hi : 0 ≤ i) (hd : l[i.toNat]? = some d) : SubD X m (.raw (.ref p)) (I i) (.py d) := ⟨_, ix_list, fun G H v u w r1 r2 Q q => by
  cases ds_raw r1
  cases ds_int r2
  obtain ⟨vs, h1, h2⟩ := own_get w h
  obtain ⟨x, h3, h4⟩ := dpa_get h2 hd
  exact ⟨p, vs, i, x, rfl, rfl, SqL.of h1, at_of (j := i.toNat) (by omega) h3, q _ _ _ (.refl w) (.py h4)⟩⟩
theorem dpa_set {K : PySem.W.Frag} {G : Hp} {v : V} {d : PyData} (r : Dp K G v d) : ∀ {vs : List V} {ds : List PyData} (i : Nat), DpAll K G vs ds → DpAll K G (vs.set i v) (ds.set i d)
  | _, _, _, .nil => .nil
  | _, _, 0, .cons _ t => .cons r t
  | _, _, i + 1, .cons q t => .cons q (dpa_set r i t)
theorem ws_store {o i : Expr} {tpos : Pos} {p : Addr} {j : Int} {E : ED} (ho : EE X o ds (.raw (.ref p))) (hi : EE X i ds (PySem.PyData.int j |> SD.py)) (h : WE X e ds m fun d m1 => ∃ d' l, d = .py d' ∧ (p, OV.dl l) ∈ m1 ∧ 0 ≤ j ∧ j < l.length ∧ E.nx ds (mset m1 p (.dl (l.set j.toNat d'))))
    (ha : ∀ v, assign (.Subscript o i tpos) X.env v = (do
      let ov ← holding [v] (eval o X.env)
      let iv ← holding [v, ov] (eval i X.env)
      standAt tpos
      holding [v, ov, iv] (setItem ov iv v)
      release [v, ov, iv] []) := by intro _; rfl) (hs : swapsWithSole [.Subscript o i tpos] e pos.line X.env = pure false := by rfl) (hw : swappedStores [.Subscript o i tpos] e X.env = pure none := by rfl)
    (h1 : (assignEach [.Subscript o i tpos] X.env).map (·.2) = [assign (.Subscript o i tpos) X.env] := by rfl) : WS X (.Assign [.Subscript o i tpos] e pos) ds m E := fun σ G H e0 w D k =>
  oS (ps_asg (pE e) (pg_sub (pE o) (pE i) set_list ha) hs hw h1) (h σ G H e0 w _ fun v d m1 G1 H1 g1 r1 ⟨d', l, e1, hm, h0, hj, p'⟩ => by
    subst e1
    refine ho m1 σ G1 H1 (e0.mono g1.g) g1.wd _ fun ov od m2 G2 H2 g2 r2 ⟨e1, e2⟩ => ?_
    subst e1 e2
    refine hi m2 σ G2 H2 (e0.mono (g1.trans g2).g) g2.wd _ fun iv id m3 G3 H3 g3 r3 ⟨e1, e2⟩ => ?_
    subst e1 e2
    cases ds_raw r2
    cases ds_int r3
    obtain ⟨vs, h1, h2⟩ := own_get g3.wd hm
    have hl := dpa_length h2
    have hjn : ixN vs.length j = some j.toNat := by
      unfold ixN
      rw [if_pos h0, if_pos (by omega)]
    refine ⟨p, vs, j, j.toNat, rfl, rfl, h1, hjn, ?_⟩
    have r4 : Dp X.K G3 v d' := by
      cases ds_mono (g2.trans g3).g r1 with
      | py z => exact z
    have g4 := Gr.set (o := .lst (vs.set j.toNat v)) (v := .dl (l.set j.toNat d')) g3.wd hm ⟨_, rfl, dpa_set r4 _ h2⟩
    exact k.nx _ _ _ _ _ (((g1.trans g2).trans g3).trans g4) (e0.mono (((g1.trans g2).trans g3).trans g4).g) p')
theorem ws_app {o : Expr} {apos cpos : Pos} {p : Addr} {E : ED} (ho : EE X o ds (.raw (.ref p))) (hp0 : ∃ l0, (p, OV.dl l0) ∈ m) (h : WE X e ds m fun d m1 => ∃ d' l, d = .py d' ∧ (p, OV.dl l) ∈ m1 ∧ l.length < 1000000 ∧ E.nx ds (mset m1 p (.dl (l ++ [d']))))
    (hbase : attributeBase o "append" X.env (eval o X.env) = eval o X.env := by rfl)
    (hfew : ((backTo cpos (starEach (e :: []) X.env)).all (fun x => !x.1) && (backToKw cpos (keywordEach [] X.env)).all (fun x => x.1.isSome)
      && decide ((e :: ([] : List Expr)).length + ([] : List Keyword).length + (if ([] : List Keyword).isEmpty then 0 else 1) < 30)) = true := by rfl)
    (hline : (apos.endLine == cpos.line) = true := by rfl) (hs : starEach (e :: []) X.env = (false, eval e X.env) :: starEach [] X.env := by rfl) (hplain : (backTo cpos (starEach [] X.env)).any (·.1) = false := by rfl)
    (hsw : swapsWith (.Call (.Attribute o "append" apos) [e] [] cpos) none pos.line X.env = pure false := by rfl) : WS X (.Expr (.Call (.Attribute o "append" apos) [e] [] cpos) pos) ds m E := fun σ G H e0 w D k =>
  oS (ps_expr (pe_bm PySem.F.plainAttrs_list PySem.F.slot_list_append PySem.F.type_list_append mt_append (pE o) (pa_cons (pE e) pa_nil hs) hbase hfew hline hs hplain) hsw) (by
    refine ho m σ G H e0 w _ fun ov od m1 G1 H1 g1 r1 ⟨e1, e2⟩ => ?_
    subst e1 e2
    cases ds_raw r1
    obtain ⟨l0, hl0⟩ := hp0
    obtain ⟨vs0, h1, _⟩ := own_get g1.wd hl0
    refine ⟨.inl ⟨rfl, vs0, SqL.of h1⟩, ?_⟩
    refine h σ G1 H1 (e0.mono g1.g) g1.wd _ fun v d m2 G2 H2 g2 r2 ⟨d', l, e1, hm, hl, p'⟩ => ?_
    subst e1
    obtain ⟨vs, h3, h4⟩ := own_get g2.wd hm
    have hlen := dpa_length h4
    refine ⟨p, vs, v, rfl, rfl, h3, by have := sizeLine_eq; omega, ?_⟩
    have r4 : Dp X.K G2 v d' := by
      cases r2 with
      | py z => exact z
    have g4 := Gr.set (o := .lst (vs ++ [v])) (v := .dl (l ++ [d'])) g2.wd hm ⟨_, rfl, dpa_append h4 (.cons r4 .nil)⟩
    exact k.nx _ _ _ _ _ ((g1.trans g2).trans g4) (e0.mono ((g1.trans g2).trans g4).g) p')
/-- an owned list becomes plain data -/
theorem wss_seal {sts : List Stmt} {i : Nat} {p : Addr} {l : List PyData} {E : ED} (hd : ds[i]? = some (some (.raw (.ref p)))) (h : WSs X sts (ds.set i (some (Ls l))) m E) : WSs X sts ds ((p, .dl l) :: m) E := fun σ G H e0 w D k => by
  obtain ⟨vs, h1, h2⟩ := own_get w List.mem_cons_self
  have g := Gr.seal w h1
  obtain ⟨v, hv, hr⟩ := e0.2 i _ hd
  cases ds_raw hr
  exact h σ _ H ((e0.mono g.g).retype hv (.py (.lst (SqL.of upd_same) (dpa_mono g.g h2)))) g.wd D (k.after g)
theorem we_seal {i : Nat} {p : Addr} {l : List PyData} {P : SD → MS → Prop} (hd : ds[i]? = some (some (.raw (.ref p)))) (h : WE X e (ds.set i (some (Ls l))) m P) : WE X e ds ((p, .dl l) :: m) P := fun σ G H e0 w Q q => by
  obtain ⟨vs, h1, h2⟩ := own_get w List.mem_cons_self
  have g := Gr.seal w h1
  obtain ⟨v, hv, hr⟩ := e0.2 i _ hd
  cases ds_raw hr
  exact h σ _ H ((e0.mono g.g).retype hv (.py (.lst (SqL.of upd_same) (dpa_mono g.g h2)))) g.wd Q fun v d m' G' H' g' => q v d m' G' H' (g.trans g')
theorem Gr.perm {K : PySem.W.Frag} {m m' : MS} {G H : Hp} (w : Wd K m G H) (h : m.Perm m') : Gr K m m' G H G H := ⟨Ex.refl _, fun _ _ _ e => e, fun _ e => e, fun _ _ e _ => e, fun q hq => .inl (mem_ad (h.mem_iff.mpr hq)), w.perm h⟩
theorem wss_perm {sts : List Stmt} {m' : MS} {E : ED} (hp : m.Perm m') (h : WSs X sts ds m' E) : WSs X sts ds m E := fun σ G H e0 w D k => h σ G H e0 (w.perm hp) D (k.after (Gr.perm w hp))
theorem wss_drop {sts : List Stmt} {p : Addr} {v : OV} {E : ED} (h : WSs X sts ds m E) : WSs X sts ds ((p, v) :: m) E := fun σ G H e0 w D k => h σ G H e0 (Gr.drop w).wd D (k.after (Gr.drop w))
theorem WSs.mono {sts : List Stmt} {E E' : ED} (h : WSs X sts ds m E) (k : ∀ d m', E.nx d m' → E'.nx d m') (k2 : ∀ d m', E.rt d m' → E'.rt d m') (k3 : ∀ d m', E.bk d m' → E'.bk d m') (k4 : ∀ d m', E.ct d m' → E'.ct d m') : WSs X sts ds m E' := fun σ G H e0 w D q =>
  h σ G H e0 w D ⟨fun _ _ _ _ _ g e p => q.nx _ _ _ _ _ g e (k _ _ p), fun _ _ _ _ _ g e p => q.rt _ _ _ _ _ g e (k2 _ _ p), fun _ _ _ _ _ g e p => q.bk _ _ _ _ _ g e (k3 _ _ p), fun _ _ _ _ _ g e p => q.ct _ _ _ _ _ g e (k4 _ _ p)⟩
end

/-! ### what is walked -/
def ItD (K : PySem.W.Frag) (J : It) (G : Hp) (xs : List SD) : Prop :=
  (∀ i H, Ex G H → i < xs.length → J.go i H) ∧ (∀ H, Ex G H → J.stop xs.length H) ∧
  ∀ i m' G' H x H', Ex G G' → Wd K m' G' H → i < xs.length → J.yld i H x H' → ∃ G'' d, Gr K m' m' G' H G'' H' ∧ xs[i]? = some d ∧ DS K G'' x d
def WI (X : Cx) (tg iter : Expr) (ds : DE) (m : MS) (R : List SD → MS → Prop) : Prop := ∀ σ G H, EnvD X.K G σ ds → Wd X.K m G H → ∀ R' : It → Hp → Prop, (∀ J xs m' G' H', Gr X.K m m' G H G' H' → ItD X.K J G' xs → R xs m' → R' J H') → wI X tg iter σ H R'
def EI (X : Cx) (tg iter : Expr) (ds : DE) (xs : List SD) : Prop := ∀ m, WI X tg iter ds m fun xs' m' => xs' = xs ∧ m' = m
section
variable {X : Cx} {ds : DE} {m : MS} {e a b c tg : Expr} {es rest : List Expr} {pos : Pos}
theorem EI.to {xs : List SD} {R : List SD → MS → Prop} (h : EI X tg e ds xs) (p : R xs m) : WI X tg e ds m R := fun σ G H E w R' q => h m σ G H E w R' fun J xs' m' G' H' g i ⟨e1, e2⟩ => by subst e1 e2; exact q _ _ _ _ _ g i p
theorem ei_lst {l : List PyData} (h : EE X e ds (Ls l)) : EI X tg e ds (l.map .py) := fun m σ G H E w R' q => oI (pi_list (pE e)) (h m σ G H E w _ fun v d m1 G1 H1 g1 r1 ⟨e1, e2⟩ => by
  subst e1 e2
  obtain ⟨a, vs, rfl, h1, h2⟩ := ds_lst r1
  have hl : vs.length = l.length := dpa_length h2
  refine ⟨a, rfl, ⟨vs, ex_l g1.wd.w h1⟩, q _ _ _ _ _ g1 ⟨fun i H e hi => ?_, fun H e => ⟨vs, ex_l e h1, by rw [hl]; simp⟩, fun i m' G' H x H' e w' hi y => ?_⟩ ⟨rfl, rfl⟩⟩
  · have hi' : i < vs.length := by rw [hl]; simpa using hi
    exact ⟨vs, vs[i], ex_l e h1, List.getElem?_eq_getElem hi'⟩
  · obtain ⟨e1, y⟩ := y
    subst e1
    have hx := y vs (ex_l (e.trans w'.w) h1)
    obtain ⟨d, h3, h4⟩ := dpa_get' h2 hx
    exact ⟨G', .py d, .refl w', by rw [List.getElem?_map, h3]; rfl, .py (dp_mono e h4)⟩)
theorem wi_lst {P : List SD → MS → Prop} (h : WE X e ds m fun d m1 => ∃ l, d = Ls l ∧ P (l.map .py) m1) : WI X tg e ds m P := fun σ G H E w R' q => oI (pi_list (pE e)) (h σ G H E w _ fun v d m1 G1 H1 g1 r1 ⟨l, e1, p⟩ => by
  subst e1
  obtain ⟨a, vs, rfl, h1, h2⟩ := ds_lst r1
  have hl : vs.length = l.length := dpa_length h2
  refine ⟨a, rfl, ⟨vs, ex_l g1.wd.w h1⟩, q _ _ _ _ _ g1 ⟨fun i H e hi => ?_, fun H e => ⟨vs, ex_l e h1, by rw [hl]; simp⟩, fun i m' G' H x H' e w' hi y => ?_⟩ p⟩
  · have hi' : i < vs.length := by rw [hl]; simpa using hi
    exact ⟨vs, vs[i], ex_l e h1, List.getElem?_eq_getElem hi'⟩
  · obtain ⟨e1, y⟩ := y
    subst e1
    have hx := y vs (ex_l (e.trans w'.w) h1)
    obtain ⟨d, h3, h4⟩ := dpa_get' h2 hx
    exact ⟨G', .py d, .refl w', by rw [List.getElem?_map, h3]; rfl, .py (dp_mono e h4)⟩)
theorem ei_tup {l : List PyData} (h : EE X e ds (Tp l)) : EI X tg e ds (l.map .py) := fun m σ G H E w R' q => oI (pi_tup (pE e)) (h m σ G H E w _ fun v d m1 G1 H1 g1 r1 ⟨e1, e2⟩ => by
  subst e1 e2
  obtain ⟨a, vs, rfl, h1, h2⟩ := ds_tup r1
  have hl : vs.length = l.length := dpa_length h2
  refine ⟨a, rfl, ⟨vs, ex_t g1.wd.w h1⟩, q _ _ _ _ _ g1 ⟨fun i H e hi => ?_, fun H e => ⟨vs, ex_t e h1, by rw [hl]; simp⟩, fun i m' G' H x H' e w' hi y => ?_⟩ ⟨rfl, rfl⟩⟩
  · have hi' : i < vs.length := by rw [hl]; simpa using hi
    exact ⟨vs, vs[i], ex_t e h1, List.getElem?_eq_getElem hi'⟩
  · obtain ⟨e1, y⟩ := y
    subst e1
    have hx := y vs (ex_t (e.trans w'.w) h1)
    obtain ⟨d, h3, h4⟩ := dpa_get' h2 hx
    exact ⟨G', .py d, .refl w', by rw [List.getElem?_map, h3]; rfl, .py (dp_mono e h4)⟩)
theorem ei_str {l : List Nat} (h : EE X e ds (S l)) : EI X tg e ds (l.map fun c => S [c]) := fun m σ G H E w R' q => oI (pi_str (pE e)) (h m σ G H E w _ fun v d m1 G1 H1 g1 r1 ⟨e1, e2⟩ => by
  subst e1 e2
  cases ds_str r1
  refine ⟨_, rfl, q (Its ⟨l.toArray⟩) _ _ _ _ g1 ⟨fun i H e hi => ?_, fun H e => ?_, fun i m' G' H x H' e w' hi y => ?_⟩ ⟨rfl, rfl⟩⟩
  · show i < l.toArray.size
    simpa using hi
  · show l.toArray.size ≤ (l.map fun c => S [c]).length
    simp
  · obtain ⟨e1, c, h1, h2⟩ := y
    subst e1 h2
    have h1 : l[i]? = some c := by simpa using h1
    refine ⟨G', S [c], .refl w', by rw [List.getElem?_map, h1]; rfl, ?_⟩
    exact .py (.str _))
theorem map_range_get {α : Type} {n i : Nat} {f : Nat → α} (h : i < n) : ((List.range n).map f)[i]? = some (f i) := by
  rw [List.getElem?_map, List.getElem?_range h]
  rfl
theorem ei_range1 {n : Int} {p : Pos} (h : EE X a ds (I n)) (hn : -(2 ^ 62) ≤ n ∧ n < 2 ^ 62) (hm : X.mg "range" = none) (hg : Gl X "range" := by rfl) (hs : starEach [a] X.env = [(false, eval a X.env)] := by rfl) :
    EI X tg (.Call (.Name "range" p) [a] [] pos) ds ((List.range n.toNat).map fun (i : Nat) => I (i : Int)) := fun m σ G H E w R' q => oI (pi_range1 hg hm (pa_cons (pE a) pa_nil (by rw [hs]; rfl)) hs) (h m σ G H E w _ fun v d m1 G1 H1 g1 r1 ⟨e1, e2⟩ => by
  subst e1 e2
  cases ds_int r1
  refine ⟨n, rfl, hn.1, hn.2, q _ _ _ _ _ g1 ⟨fun i H e hi => ?_, fun H e => ?_, fun i m' G' H x H' e w' hi y => ?_⟩ ⟨rfl, rfl⟩⟩
  · show i < n.toNat
    rw [List.length_map, List.length_range] at hi; exact hi
  · show n.toNat ≤ ((List.range n.toNat).map fun (i : Nat) => I (i : Int)).length
    rw [List.length_map, List.length_range]; exact Nat.le_refl _
  · obtain ⟨e1, e2⟩ := y
    subst e1 e2
    refine ⟨G', I ((0 : Int) + (i : Int)), .refl w', ?_, .py (.int _)⟩
    rw [map_range_get (by simpa using hi), Int.zero_add])
theorem wi_range1 {p : Pos} {P : List SD → MS → Prop} (h : WE X a ds m fun d m1 => ∃ n : Int, d = I n ∧ (-(2 ^ 62) ≤ n ∧ n < 2 ^ 62) ∧ P ((List.range n.toNat).map fun (i : Nat) => I (i : Int)) m1) (hm : X.mg "range" = none) (hg : Gl X "range" := by rfl) (hs : starEach [a] X.env = [(false, eval a X.env)] := by rfl) :
    WI X tg (.Call (.Name "range" p) [a] [] pos) ds m P := fun σ G H E w R' q => oI (pi_range1 hg hm (pa_cons (pE a) pa_nil (by rw [hs]; rfl)) hs) (h σ G H E w _ fun v d m1 G1 H1 g1 r1 ⟨n, e1, hn, p⟩ => by
  subst e1
  cases ds_int r1
  refine ⟨n, rfl, hn.1, hn.2, q _ _ _ _ _ g1 ⟨fun i H e hi => ?_, fun H e => ?_, fun i m' G' H x H' e w' hi y => ?_⟩ p⟩
  · show i < n.toNat
    rw [List.length_map, List.length_range] at hi; exact hi
  · show n.toNat ≤ ((List.range n.toNat).map fun (i : Nat) => I (i : Int)).length
    rw [List.length_map, List.length_range]; exact Nat.le_refl _
  · obtain ⟨e1, e2⟩ := y
    subst e1 e2
    refine ⟨G', I ((0 : Int) + (i : Int)), .refl w', ?_, .py (.int _)⟩
    rw [map_range_get (by simpa using hi), Int.zero_add])
theorem ei_range2 {lo n : Int} {p : Pos} (h : EE X a ds (I lo)) (h2 : EE X b ds (I n)) (hn : -(2 ^ 62) ≤ lo ∧ lo < 2 ^ 62 ∧ -(2 ^ 62) ≤ n ∧ n < 2 ^ 62) (hm : X.mg "range" = none) (hg : Gl X "range" := by rfl)
    (hs : starEach [a, b] X.env = [(false, eval a X.env), (false, eval b X.env)] := by rfl) (hs2 : starEach [b] X.env = [(false, eval b X.env)] := by rfl) :
    EI X tg (.Call (.Name "range" p) [a, b] [] pos) ds ((List.range (n - lo).toNat).map fun (i : Nat) => I (lo + (i : Int))) := fun m σ G H E w R' q => oI (pi_range2 hg hm (pa_cons (pE a) (pa_cons (pE b) pa_nil (by rw [hs2]; rfl)) (by rw [hs, hs2])) hs hs2) (h m σ G H E w _ fun v d m1 G1 H1 g1 r1 ⟨e1, e2⟩ => by
  subst e1 e2
  cases ds_int r1
  refine h2 m1 σ G1 H1 (E.mono g1.g) g1.wd _ fun v d m2 G2 H2 g2 r2 ⟨e1, e2⟩ => ?_
  subst e1 e2
  cases ds_int r2
  refine ⟨lo, n, rfl, hn, q _ _ _ _ _ (g1.trans g2) ⟨fun i H e hi => ?_, fun H e => ?_, fun i m' G' H x H' e w' hi y => ?_⟩ ⟨rfl, rfl⟩⟩
  · show i < (n - lo).toNat
    rw [List.length_map, List.length_range] at hi; exact hi
  · show (n - lo).toNat ≤ ((List.range (n - lo).toNat).map fun (i : Nat) => I (lo + (i : Int))).length
    rw [List.length_map, List.length_range]; exact Nat.le_refl _
  · obtain ⟨e1, e2⟩ := y
    subst e1 e2
    exact ⟨G', I (lo + (i : Int)), .refl w', by rw [map_range_get (by simpa using hi)], .py (.int _)⟩)
theorem ei_range3 {lo hi st : Int} {n : Nat} {p : Pos} (h : EE X a ds (I lo)) (h2 : EE X b ds (I hi)) (h3 : EE X c ds (I st)) (hn : RgC lo hi st n) (hm : X.mg "range" = none) (hg : Gl X "range" := by rfl)
    (hs : starEach [a, b, c] X.env = (false, eval a X.env) :: starEach [b, c] X.env := by rfl) (hpl : (backTo pos (starEach [b, c] X.env)).any (·.1) = false := by rfl)
    (hs1 : starEach [b, c] X.env = (false, eval b X.env) :: starEach [c] X.env := by rfl) (hs2 : starEach [c] X.env = (false, eval c X.env) :: starEach [] X.env := by rfl) :
    EI X tg (.Call (.Name "range" p) [a, b, c] [] pos) ds ((List.range n).map fun (i : Nat) => I (lo + (i : Int) * st)) := fun m σ G H E w R' q => oI (pi_range3 hg hm (pa_cons (pE a) (pa_cons (pE b) (pa_cons (pE c) pa_nil hs2) hs1) hs) hs hpl) (h m σ G H E w _ fun v d m1 G1 H1 g1 r1 ⟨e1, e2⟩ => by
  subst e1 e2
  cases ds_int r1
  refine h2 m1 σ G1 H1 (E.mono g1.g) g1.wd _ fun v d m2 G2 H2 g2 r2 ⟨e1, e2⟩ => ?_
  subst e1 e2
  cases ds_int r2
  refine h3 m2 σ G2 H2 (E.mono (g1.trans g2).g) g2.wd _ fun v d m3 G3 H3 g3 r3 ⟨e1, e2⟩ => ?_
  subst e1 e2
  cases ds_int r3
  refine ⟨lo, hi, st, n, rfl, hn, q _ _ _ _ _ ((g1.trans g2).trans g3) ⟨fun i H e hi => ?_, fun H e => ?_, fun i m' G' H x H' e w' hi y => ?_⟩ ⟨rfl, rfl⟩⟩
  · show i < n
    rw [List.length_map, List.length_range] at hi; exact hi
  · show n ≤ ((List.range n).map fun (i : Nat) => I (lo + (i : Int) * st)).length
    rw [List.length_map, List.length_range]; exact Nat.le_refl _
  · obtain ⟨e1, e2⟩ := y
    subst e1 e2
    exact ⟨G', I (lo + (i : Int) * st), .refl w', by rw [map_range_get (by simpa using hi)], .py (.int _)⟩)
/-- zip of two tuples, of two lists -/
theorem zip_get {l k : List PyData} {i : Nat} {d d2 : PyData} (h : l[i]? = some d) (h2 : k[i]? = some d2) : ((List.zip l k).map fun (q : PyData × PyData) => Tp [q.1, q.2])[i]? = some (Tp [d, d2]) := by
  rw [List.getElem?_map, List.getElem?_zip_eq_some (z := (d, d2)) |>.mpr ⟨h, h2⟩]
  rfl
theorem ei_zipT {l k : List PyData} {p : Pos} {elts : List Expr} {kk : Nat} {tpos : Pos} (h : EE X a ds (Tp l)) (h2 : EE X b ds (Tp k)) (hm : X.mg "zip" = none) (hg : Gl X "zip" := by rfl)
    (hs : starEach [a, b] X.env = (false, eval a X.env) :: starEach [b] X.env := by rfl) (hpl : (backTo pos (starEach [b] X.env)).any (·.1) = false := by rfl) (hs2 : starEach [b] X.env = (false, eval b X.env) :: starEach [] X.env := by rfl) :
    EI X (.Tuple elts kk tpos) (.Call (.Name "zip" p) [a, b] [] pos) ds ((List.zip l k).map fun (q : PyData × PyData) => Tp [q.1, q.2]) := fun m σ G H E w R' q => oI (RZ.pi_zipA hg hm (pa_cons (pE a) (pa_cons (pE b) pa_nil hs2) hs) hs hpl) (h m σ G H E w _ fun v d m1 G1 H1 g1 r1 ⟨e1, e2⟩ => by
  subst e1 e2
  refine h2 m1 σ G1 H1 (E.mono g1.g) g1.wd _ fun v2 d m2 G2 H2 g2 r2 ⟨e1, e2⟩ => ?_
  subst e1 e2
  obtain ⟨a1, xs, rfl, p1, p2⟩ := ds_tup (ds_mono g2.g r1)
  obtain ⟨a2, ys, rfl, p3, p4⟩ := ds_tup r2
  have l1 := dpa_length p2
  have l2 := dpa_length p4
  refine ⟨a1, a2, xs, ys, rfl, .inr ⟨ex_t g2.wd.w p1, ex_t g2.wd.w p3, q _ _ _ _ _ (g1.trans g2) ⟨fun i H e hi => ?_, fun H e => ?_, fun i m' G' H x H' e w' hi y => ?_⟩ ⟨rfl, rfl⟩⟩⟩
  · have hi : i < min l.length k.length := by simpa using hi
    exact ⟨xs, ys, xs[i]'(by omega), ys[i]'(by omega), ex_t e p1, ex_t e p3, List.getElem?_eq_getElem _, List.getElem?_eq_getElem _⟩
  · refine ⟨xs, ys, ex_t e p1, ex_t e p3, ?_⟩
    rw [List.length_map, List.length_zip]
    omega
  · obtain ⟨T, x1, x2, rfl, nT, rfl, f1, f2⟩ := y
    obtain ⟨d, h3, h4⟩ := dpa_get' p2 (f1 xs (ex_t (e.trans w'.w) p1))
    obtain ⟨d2, h5, h6⟩ := dpa_get' p4 (f2 ys (ex_t (e.trans w'.w) p3))
    have g3 := Gr.new (o := .tup [x1, x2]) w' nT
    exact ⟨_, Tp [d, d2], g3, zip_get h3 h5, .py (.tup (SqT.of upd_same) (.cons (dp_mono (e.trans g3.g) h4) (.cons (dp_mono (e.trans g3.g) h6) .nil)))⟩)
theorem ei_zipL {l k : List PyData} {p : Pos} {elts : List Expr} {kk : Nat} {tpos : Pos} (h : EE X a ds (Ls l)) (h2 : EE X b ds (Ls k)) (hm : X.mg "zip" = none) (hg : Gl X "zip" := by rfl)
    (hs : starEach [a, b] X.env = (false, eval a X.env) :: starEach [b] X.env := by rfl) (hpl : (backTo pos (starEach [b] X.env)).any (·.1) = false := by rfl) (hs2 : starEach [b] X.env = (false, eval b X.env) :: starEach [] X.env := by rfl) :
    EI X (.Tuple elts kk tpos) (.Call (.Name "zip" p) [a, b] [] pos) ds ((List.zip l k).map fun (q : PyData × PyData) => Tp [q.1, q.2]) := fun m σ G H E w R' q => oI (pi_zip hg hm (pa_cons (pE a) (pa_cons (pE b) pa_nil hs2) hs) hs hpl) (h m σ G H E w _ fun v d m1 G1 H1 g1 r1 ⟨e1, e2⟩ => by
  subst e1 e2
  refine h2 m1 σ G1 H1 (E.mono g1.g) g1.wd _ fun v2 d m2 G2 H2 g2 r2 ⟨e1, e2⟩ => ?_
  subst e1 e2
  obtain ⟨a1, xs, rfl, p1, p2⟩ := ds_lst (ds_mono g2.g r1)
  obtain ⟨a2, ys, rfl, p3, p4⟩ := ds_lst r2
  have l1 := dpa_length p2
  have l2 := dpa_length p4
  refine ⟨a1, a2, xs, ys, rfl, ex_l g2.wd.w p1, ex_l g2.wd.w p3, q _ _ _ _ _ (g1.trans g2) ⟨fun i H e hi => ?_, fun H e => ?_, fun i m' G' H x H' e w' hi y => ?_⟩ ⟨rfl, rfl⟩⟩
  · have hi : i < min l.length k.length := by simpa using hi
    exact ⟨xs, ys, xs[i]'(by omega), ys[i]'(by omega), ex_l e p1, ex_l e p3, List.getElem?_eq_getElem _, List.getElem?_eq_getElem _⟩
  · refine ⟨xs, ys, ex_l e p1, ex_l e p3, ?_⟩
    rw [List.length_map, List.length_zip]
    omega
  · obtain ⟨T, x1, x2, rfl, nT, rfl, f1, f2⟩ := y
    obtain ⟨d, h3, h4⟩ := dpa_get' p2 (f1 xs (ex_l (e.trans w'.w) p1))
    obtain ⟨d2, h5, h6⟩ := dpa_get' p4 (f2 ys (ex_l (e.trans w'.w) p3))
    have g3 := Gr.new (o := .tup [x1, x2]) w' nT
    exact ⟨_, Tp [d, d2], g3, zip_get h3 h5, .py (.tup (SqT.of upd_same) (.cons (dp_mono (e.trans g3.g) h4) (.cons (dp_mono (e.trans g3.g) h6) .nil)))⟩)

/-! ### for -/
theorem ws_for {iter : Expr} {body : List Stmt} {js : List Nat} {E : ED} (h : WI X tg iter ds m fun xs m1 => ∃ Iv : Nat → DE → MS → Prop, Iv 0 ds m1 ∧
      (∀ i x ds' m', xs[i]? = some x → Iv i ds' m' → WG X tg js x ds' m' fun ds2 m2 => WSs X body ds2 m2 { E with nx := Iv (i + 1), ct := Iv (i + 1), bk := E.nx }) ∧ ∀ ds' m', Iv xs.length ds' m' → E.nx ds' m')
    (hp : PassesOwn (model X.prog X.w) X.A X.env X.xe := by exact PassesOwn.never) (hc : X.calm = true := by rfl) (hs : ∀ x, foldedSetIterable iter X.env x = pure x := by intro _; rfl) : WS X (.For tg iter body [] pos) ds m E := fun σ G H e0 w D k =>
  oS (ps_for hp hc (pI tg iter) (pG tg) (pSs body) hs) (h σ G H e0 w _ fun J xs m1 G1 H1 g1 it ⟨Iv, i0, turn, fin⟩ => by
    obtain ⟨go, stop, yld⟩ := it
    refine ⟨fun i mm σ' H' => mm = xs.length - i ∧ i ≤ xs.length ∧ ∃ ds' m' G', Gr X.K m1 m' G1 H1 G' H' ∧ EnvD X.K G' σ' ds' ∧ Iv i ds' m', ⟨_, rfl, Nat.zero_le _, ds, m1, G1, .refl g1.wd, e0.mono g1.g, i0⟩, ?_⟩
    rintro i mm σ' H' ⟨rfl, hi, ds', m', G', g2, e2, iv⟩
    by_cases hlt : i < xs.length
    · refine .inr ⟨go i H' (g2.g.trans g2.wd.w) hlt, fun σ'' H'' => ∃ ds'' m'' G'', Gr X.K m1 m'' G1 H1 G'' H'' ∧ EnvD X.K G'' σ'' ds'' ∧ Iv (i + 1) ds'' m'', fun σ'' H'' ⟨ds'', m'', G'', a, b, c⟩ => ⟨xs.length - (i + 1), by omega, rfl, hlt, ds'', m'', G'', a, b, c⟩, fun x H'' y => ?_⟩
      obtain ⟨G3, d, g3, hd, r3⟩ := yld i m' G' H' x H'' g2.g g2.wd hlt y
      refine turn i d ds' m' hd iv σ' G3 H'' x (e2.mono g3.g) g3.wd r3 _ fun σ4 ds4 m4 G4 H4 g4 e4 _ p4 => ?_
      have gg := (g2.trans g3).trans g4
      refine p4 σ4 G4 H4 e4 g4.wd _ ⟨fun σ5 ds5 m5 G5 H5 g5 e5 p5 => ⟨ds5, m5, G5, gg.trans g5, e5, p5⟩, fun v d5 m5 G5 H5 g5 r5 p5 => k.rt _ _ _ _ _ ((g1.trans gg).trans g5) r5 p5, fun σ5 ds5 m5 G5 H5 g5 e5 p5 => k.nx _ _ _ _ _ ((g1.trans gg).trans g5) e5 p5, fun σ5 ds5 m5 G5 H5 g5 e5 p5 => ⟨ds5, m5, G5, gg.trans g5, e5, p5⟩⟩
    · have e : i = xs.length := by omega
      subst e
      exact .inl ⟨stop H' (g2.g.trans g2.wd.w), k.nx _ _ _ _ _ (g1.trans g2) e2 (fin _ _ iv)⟩)

/-! ### list comprehensions -/
abbrev Blk (X : Cx) (scope : Scope) (s : Shared) (H : Hp) (C : Addr) (cl : List (Str × Addr)) (fp : List Addr) : Cx := X.blk s H scope (compEnvC scope cl C X.env) fp
theorem wts_nil {P : Bool → MS → Prop} (p : P true m) : WTs X [] ds m P := fun σ G H E w Q q pins s I => pts_nil.run pins s σ H Q I (q _ _ _ _ (.refl w) p)
theorem wts_one {P : Bool → MS → Prop} (h : WT X e ds m P) : WTs X [e] ds m P := fun σ G H E w Q q pins s I => (pts_one (pT e)).run pins s σ H Q I (h σ G H E w Q q)
/-- what holds in each block of a comprehension -/
def AllBlk (X : Cx) (scope : Scope) (P : Cx → Prop) : Prop := ∀ s H C cl fp, P (Blk X scope s H C cl fp)
/-- a turn of a comprehension -/
def LcTurn (X : Cx) (scope : Scope) (tg elt : Expr) (ifs : List Expr) (js : List Nat) (x : SD) (ds : DE) (m : MS) (Yes : PyData → MS → Prop) (No : MS → Prop) : Prop :=
  AllBlk X scope fun Y => WG Y tg js x (wipeD ds js) m fun ds2 m2 => AllBlk X scope fun Y => WTs Y ifs ds2 m2 fun k m3 => if k = true then AllBlk X scope fun Y => WE Y elt ds2 m3 (fun d m4 => ∃ d', d = .py d' ∧ Yes d' m4) else No m3
theorem lc_read {elt iter : Expr} {ifs : List Expr} {scope : Scope} {own : List (Str × Nat)} {σ : L2.St} {G H : Hp} {Q : VK} (e0 : EnvD X.K G σ ds) (w : Wd X.K m G H) {P : List PyData → MS → Prop}
    (h : WI X tg iter ds m fun xs m1 => xs.length ≤ 1000000 ∧ ∃ Iv : Nat → List PyData → MS → Prop, Iv 0 [] m1 ∧
      (∀ i x acc m', xs[i]? = some x → acc.length ≤ i → Iv i acc m' → LcTurn X scope tg elt ifs (own.map (·.2)) x ds m' (fun d m4 => Iv (i + 1) (acc ++ [d]) m4) (fun m4 => Iv (i + 1) acc m4)) ∧ ∀ acc m', acc.length ≤ xs.length → Iv xs.length acc m' → P acc m')
    (q : ∀ v acc m' G' H', Gr X.K m m' G H G' H' → DS X.K G' v (Ls acc) → P acc m' → Q v H') :
    tLc (wI X tg iter) (fun v σ H Q => ∀ s H0 C cl fp, wG (Blk X scope s H0 C cl fp) tg v σ H Q) (fun σ H Q => ∀ s H0 C cl fp, wTs (Blk X scope s H0 C cl fp) ifs σ H Q) (fun σ H Q => ∀ s H0 C cl fp, wE (Blk X scope s H0 C cl fp) elt σ H Q) (own.map (·.2)) σ H Q := by
  refine h σ G H e0 w _ fun J xs m1 G1 H1 g1 it ⟨hbig, Iv, i0, turn, fin⟩ => fun Dl hD => ?_
  obtain ⟨go, stop, yld⟩ := it
  have gD := Gr.made (o := .lst []) (v := .dl []) g1.wd hD ⟨[], rfl, .nil⟩
  refine ⟨fun i mm H' => mm = xs.length - i ∧ i ≤ xs.length ∧ ∃ acc m' G', Gr X.K m1 ((Dl, .dl acc) :: m') G1 H1 G' H' ∧ acc.length ≤ i ∧ Iv i acc m', ⟨_, rfl, Nat.zero_le _, [], m1, G1, gD, Nat.le_refl _, i0⟩, ?_⟩
  rintro i mm H' ⟨rfl, hi, acc, m', G', g2, hacc, iv⟩
  by_cases hlt : i < xs.length
  · refine .inr ⟨go i H' (g2.g.trans g2.wd.w) hlt, fun H'' => ∃ acc'' m'' G'', Gr X.K m1 ((Dl, .dl acc'') :: m'') G1 H1 G'' H'' ∧ acc''.length ≤ i + 1 ∧ Iv (i + 1) acc'' m'', fun H'' ⟨acc'', m'', G'', a, b, c⟩ => ⟨xs.length - (i + 1), by omega, rfl, hlt, acc'', m'', G'', a, b, c⟩, fun x H3 y => ?_⟩
    obtain ⟨G3, d, g3, hd, r3⟩ := yld i _ G' H' x H3 g2.g g2.wd hlt y
    intro s H0 C cl fp
    have e3 : EnvD X.K G3 (L2.wipe σ (own.map (·.2))) (wipeD ds (own.map (·.2))) := (e0.mono ((g1.trans g2).trans g3).g).wipe _
    have w3 : Wd X.K m' G3 H3 := Wd.sub (fr := [(Dl, .dl acc)]) g3.wd
    refine turn i d acc m' hd hacc iv s H0 C cl fp _ G3 H3 x e3 w3 r3 _ fun σ4 ds4 m4 G4 H4 g4 e4 k4 p4 => ?_
    have f4 := Gr.frame (fr := [(Dl, .dl acc)]) g3.wd g4
    refine ⟨wipe_same (by rw [k4.2, L2.wipe_length]) k4.1, fun s H0 C cl fp => ?_⟩
    refine p4 s H0 C cl fp σ4 G4 H4 e4 g4.wd _ fun kk m5 G5 H5 g5 p5 => ?_
    have f5 := Gr.frame (fr := [(Dl, .dl acc)]) f4.wd g5
    cases kk with
    | false =>
      rw [if_neg Bool.false_ne_true] at p5 ⊢
      exact ⟨acc, m5, G5, ((g2.trans g3).trans f4).trans f5, by omega, p5⟩
    | true =>
      rw [if_pos rfl] at p5 ⊢
      intro s H0 C cl fp
      refine p5 s H0 C cl fp σ4 G5 H5 (e4.mono g5.g) g5.wd _ fun v d6 m6 G6 H6 g6 r6 ⟨d', e6, p6⟩ => ?_
      subst e6
      have f6 := Gr.frame (fr := [(Dl, .dl acc)]) f5.wd g6
      obtain ⟨vs, h1, h2⟩ := own_get f6.wd List.mem_cons_self
      have hlen := dpa_length h2
      have r7 : Dp X.K G6 v d' := by
        cases r6 with
        | py z => exact z
      have g7 := Gr.set (o := .lst (vs ++ [v])) (v := .dl (acc ++ [d'])) f6.wd List.mem_cons_self ⟨_, rfl, dpa_append h2 (.cons r7 .nil)⟩
      have em : mset ([(Dl, OV.dl acc)] ++ m6) Dl (.dl (acc ++ [d'])) = (Dl, .dl (acc ++ [d'])) :: m6 := by
        have nd := f6.wd.nd
        unfold ad at nd
        rw [List.singleton_append, List.map_cons, List.nodup_cons] at nd
        show (if Dl = Dl then (Dl, OV.dl (acc ++ [d'])) else (Dl, OV.dl acc)) :: m6.map _ = _
        rw [if_pos rfl]
        congr 1
        refine (List.map_congr_left fun q hq => ?_).trans (List.map_id _)
        have ne : q.1 ≠ Dl := fun z => nd.1 (List.mem_map.mpr ⟨q, hq, z⟩)
        rw [if_neg ne]
        rfl
      rw [em] at g7
      refine ⟨vs, h1, by have := sizeLine_eq; omega, acc ++ [d'], m6, G6, ((((g2.trans g3).trans f4).trans f5).trans f6).trans g7, by rw [List.length_append]; show acc.length + 1 ≤ i + 1; omega, p6⟩
  · have e : i = xs.length := by omega
    subst e
    have g3 := Gr.seal g2.wd (own_get g2.wd List.mem_cons_self).choose_spec.1
    refine .inl ⟨stop H' (g2.g.trans g2.wd.w), q _ acc m' _ H' ((g1.trans g2).trans g3) ?_ (fin _ _ hacc iv)⟩
    have z := (own_get g2.wd List.mem_cons_self).choose_spec
    exact .py (.lst (SqL.of upd_same) (dpa_mono g3.g z.2))
/-- [elt for tg in iter if ..] -/
theorem we_lc {elt iter : Expr} {ifs : List Expr} {scope : Scope} {P : SD → MS → Prop} (own : List (Str × Nat)) (hN : X.N.Nodup)
    (h : WI X tg iter ds m fun xs m1 => xs.length ≤ 1000000 ∧ ∃ Iv : Nat → List PyData → MS → Prop, Iv 0 [] m1 ∧
      (∀ i x acc m', xs[i]? = some x → acc.length ≤ i → Iv i acc m' → LcTurn X scope tg elt ifs (own.map (·.2)) x ds m' (fun d m4 => Iv (i + 1) (acc ++ [d]) m4) (fun m4 => Iv (i + 1) acc m4)) ∧ ∀ acc m', acc.length ≤ xs.length → Iv xs.length acc m' → P (Ls acc) m')
    (ok : BlkOk X.N X.env.scope scope own) (hc : X.calm = true := by rfl) (hs : ∀ x, foldedSetIterable iter X.env x = pure x := by intro _; rfl) : WE X (.ListComp elt [⟨tg, iter, ifs, 0⟩] scope pos) ds m P := fun σ G H e0 w Q q =>
  oE (pe_lc (own := own) hc hN (pI tg iter) ok (fun s H C cl fp => ⟨fun pins s' σ H' v u Q I r h => h s H C cl fp pins s' u I r⟩) (fun s H C cl fp => ⟨fun pins s' σ H' Q I h => h s H C cl fp pins s' I⟩) (fun s H C cl fp => ⟨fun pins s' σ H' Q I h => h s H C cl fp pins s' I⟩) hs)
    (lc_read (P := fun acc m' => P (Ls acc) m') e0 w h fun v acc m' G' H' g r p => q v _ m' G' H' g r p)
/-- y = [..] -/
theorem ws_setLc {elt iter : Expr} {ifs : List Expr} {scope : Scope} {i : Nat} {y : Str} {py spos : Pos} {E : ED} (own : List (Str × Nat)) (hN : X.N.Nodup)
    (h : WI X tg iter ds m fun xs m1 => xs.length ≤ 1000000 ∧ ∃ Iv : Nat → List PyData → MS → Prop, Iv 0 [] m1 ∧
      (∀ i x acc m', xs[i]? = some x → acc.length ≤ i → Iv i acc m' → LcTurn X scope tg elt ifs (own.map (·.2)) x ds m' (fun d m4 => Iv (i + 1) (acc ++ [d]) m4) (fun m4 => Iv (i + 1) acc m4)) ∧ ∀ acc m', acc.length ≤ xs.length → Iv xs.length acc m' → E.nx (ds.set i (some (Ls acc))) m')
    (ok : BlkOk X.N X.env.scope scope own) (hsw : swapsWith (.ListComp elt [⟨tg, iter, ifs, 0⟩] scope pos) (some (.Name y py)) spos.line X.env = pure true) (hi : X.N[i]? = some y := by rfl) (hyl : X.env.scope.names.lookup y = some .local := by rfl)
    (hc : X.calm = true := by rfl) (hs : ∀ x, foldedSetIterable iter X.env x = pure x := by intro _; rfl) : WS X (.Assign [.Name y py] (.ListComp elt [⟨tg, iter, ifs, 0⟩] scope pos) spos) ds m E := fun σ G H e0 w D k =>
  oS (ps_setLc (own := own) hc hN hi hyl hsw (pI tg iter) ok (fun s H C cl fp => ⟨fun pins s' σ H' v u Q I r h => h s H C cl fp pins s' u I r⟩) (fun s H C cl fp => ⟨fun pins s' σ H' Q I h => h s H C cl fp pins s' I⟩) (fun s H C cl fp => ⟨fun pins s' σ H' Q I h => h s H C cl fp pins s' I⟩) hs)
    (lc_read (P := fun acc m' => E.nx (ds.set i (some (Ls acc))) m') e0 w h fun v acc m' G' H' g r p => k.nx _ _ m' G' H' g ((e0.mono g.g).set r) p)
end
end W9
namespace W9
open PySem PySem.Spec PyProof.Rows L2
/-! ### defs, where nothing is being shown by repr around -/
structure Rm (k : Nat) (A : Around) : Prop where
  r : Room k A
  g : A.guards = some []
theorem Rm.mono {j k : Nat} {A : Around} (h : Rm k A) (l : j ≤ k) : Rm j A := ⟨h.r.mono l, h.g⟩
structure FnG (P : Program) (w : World) (K : PySem.W.Frag) (mg : Str → Option Value) (base : Heap) (CX : CXT) (k : Nat) (f : Addr) (fd : FuncData) (ps : List Str) (sp : Sp) : Prop where
  len : ∀ vs H Q E, sp vs H Q E → vs.length = ps.length
  go : ∀ A outer s H args us vs Q E, Rm k A → Env0 P w K mg base A outer s H → BindsTo s fd args (ps.zip us) → Vals vs us → sp vs H Q E → codeAny (model P w) A (.call (.ref f) args) (CR CX outer P w H s Q E) s
theorem FnG.mono {P : Program} {w : World} {K : PySem.W.Frag} {mg : Str → Option Value} {base : Heap} {CX : CXT} {j k : Nat} {f : Addr} {fd : FuncData} {ps : List Str} {sp : Sp} (F : FnG P w K mg base CX j f fd ps sp) (h : j ≤ k) : FnG P w K mg base CX k f fd ps sp :=
  ⟨F.len, fun A outer s H args us vs Q E r => F.go A outer s H args us vs Q E (r.mono h)⟩
/-- the context of a def's body; no exception leaves it -/
def bX (P : Program) (w : World) (K : PySem.W.Frag) (mg : Str → Option Value) (base : Heap) (N : List Str) (qual : Str) (scope : Scope) (f : Addr) (cd : Value) (A : Around) (outer : List Env) (s : Shared) (H : Hp) (E : XK) : Cx :=
  (cxOf CX0 P w K mg base N qual scope f cd A outer s H E).nox
def startD (N : List Str) (xs : List SD) : DE := xs.map some ++ List.replicate (N.length - xs.length) none
theorem env_start {K : PySem.W.Frag} {G : Hp} {N : List Str} {vs : List V} {xs : List SD} (r : DSs K G vs xs) : EnvD K G (L2.start N vs) (startD N xs) := by
  have hl := r.length
  refine ⟨by unfold L2.start startD; rw [List.length_append, List.length_append, List.length_map, List.length_map, List.length_replicate, List.length_replicate, hl], fun i d h => ?_⟩
  unfold startD at h
  unfold L2.start
  by_cases hi : i < xs.length
  · rw [List.getElem?_append_left (by rw [List.length_map]; exact hi), List.getElem?_map] at h
    rw [List.getElem?_append_left (by rw [List.length_map, hl]; exact hi), List.getElem?_map]
    have get : ∀ {vs : List V} {xs : List SD} {i : Nat} {d : SD}, DSs K G vs xs → xs[i]? = some d → ∃ v, vs[i]? = some v ∧ DS K G v d := by
      intro vs xs i d r
      induction r generalizing i with
      | nil => intro e; simp at e
      | cons a b ih =>
        intro e
        cases i with
        | zero => simp at e; subst e; exact ⟨_, rfl, a⟩
        | succ i => exact ih (i := i) (by simpa using e)
    cases e : xs[i]? with
    | none => rw [e] at h; cases h
    | some d' =>
      rw [e] at h
      cases h
      obtain ⟨v, h1, h2⟩ := get r e
      exact ⟨v, by rw [h1]; rfl, h2⟩
  · rw [List.getElem?_append_right (by rw [List.length_map]; omega), List.getElem?_replicate] at h
    split at h <;> cases h
theorem fnD_ok {P : Program} {w : World} {K : PySem.W.Frag} {mg : Str → Option Value} {base : Heap} {x qual : Str} {st : Stmt} {f : Addr} {fd : FuncData} {N ps : List Str} {k : Nat} {FF : FT} (F : Fun K x qual st f fd) (S : FnScope N ps (defScope st))
    (hlen : ∀ xs m Pp, FF xs m Pp → xs.length = ps.length)
    (hbody : ∀ cdv A outer s H E, Rm k (bX P w K mg base N qual (defScope st) f cdv A outer s H E).A → ∀ xs m Pp, FF xs m Pp →
      WSs (bX P w K mg base N qual (defScope st) f cdv A outer s H E) (defBody st) (startD N xs) m ⟨fun _ m => Pp N0 m, Pp, fun _ _ => False, fun _ _ => False⟩) : FnG P w K mg base CX0 (k + 1) f fd ps (SpD K FF) := by
  obtain ⟨oc, od, kV, doc, pm, an, cdv, ct, osl, rfl, lk, hcd⟩ := F.ex
  have len : ∀ vs H Q E, SpD K FF vs H Q E → vs.length = ps.length := fun vs H Q E ⟨G, m, ds, Pp, _, r, hF, _⟩ => by rw [r.length, hlen _ _ _ hF]
  refine ⟨len, fun A outer s H args us vs Q E rm e0 hb rv hsp => ?_⟩
  have kin := e0.mod.kin.keeps fun b o e => (e0.bs b o e).1
  have kinds : ∀ y ∈ ps.zip us, (defScope st).names.lookup y.1 = some .local ∨ ((defScope st).names.lookup y.1 = some .cell ∧ ((cellsFrom (s.heap.objs.size + 1) (defScope st).names []).lookup y.1).isSome = true) := by
    rintro ⟨n, v⟩ hy
    exact (S.par n (List.of_mem_zip hy).1).imp id fun q => ⟨q, PySem.W.cellsFrom_some _ _ _ (.inl q)⟩
  have rm' : Rm k (bX P w K mg base N qual (defScope st) f cdv A outer s H E).A := ⟨rm.r.deeper _, rm.g⟩
  obtain ⟨G, m, ds, Pp, wd, rd, hF, post⟩ := id hsp
  refine codeAny_call_function rm.r.depth (kin _ _ lk) rfl S.co S.gen rfl (PySem.W.codeRec_of kin hcd) (hb _ _ _ _ (wpAny_newFunctionEnv_cells S.kind kinds ?_))
  rintro env rfl s1 ic
  refine ⟨(e0.mod.nolimit.keeps fun b o e => (e0.bs b o e).1).keeps ic.toInCall.keep, codeAny_func ?_⟩
  have J := (inv_start (CX := CX0) (E := E) S rm.r.hd e0 (len _ _ _ _ hsp) rv ic).wish fun _ _ => False
  have body := hbody cdv A outer s H E rm' ds m Pp hF (L2.start N vs) G H (env_start rd) wd { nx := fun _ H' => Q .non H', rt := Q, bk := fun _ _ => False, ct := fun _ _ => False }
    ⟨fun σ' ds' m' G' H' g _ p => post _ _ _ _ _ g (.py .non) p, fun v d m' G' H' g r p => post _ _ _ _ _ g r p, fun _ _ _ _ _ _ _ p => p, fun _ _ _ _ _ _ _ p => p⟩
  refine wpAny_mono (body [] s1 J) (fun fl s' hs => ?_) fun _ _ z => False.elim z
  cases fl with
  | next => obtain ⟨σ', H', J', q⟩ := hs; exact ⟨.non, H', J'.os, J'.bare, J'.base, J'.hok, rfl, q⟩
  | ret u => obtain ⟨v, σ', H', J', r', q⟩ := hs; exact ⟨v, H', J'.os, J'.bare, J'.base, J'.hok, r', q⟩
  | brk => obtain ⟨_, _, _, z⟩ := hs; exact z.elim
  | cont => obtain ⟨_, _, _, z⟩ := hs; exact z.elim

section
variable {X : Cx} {ds : DE} {m : MS} {e : Expr} {es : List Expr} {pos : Pos} {k : Nat} {f : Addr} {fd : FuncData} {ps : List Str} {F : FT} {x : Str} {p : Pos}
/-- what a call of a def comes to, by values -/
theorem run_fnG {CX : CXT} {sp : Sp} {E : XK} {pins : List (Addr × Obj)} {σ : L2.St} {H : Hp} {s : Shared} {Q : VK} {args : Args} {us : List Value} {vs : List V} (FO : FnG X.prog X.w X.K X.mg X.base CX k f fd ps sp) (hr : Rm k X.A) (hb : BindsTo s fd args (ps.zip us)) (hx : Passes CX X E)
    (J : Inv X pins σ H s) (r : Vals vs us) (h : sp vs H Q E) : codeAny (model X.prog X.w) X.A (.call (.ref f) args) (fun r s' => match r with | .ok (.ret u) => EP X pins σ Q u s' | .ok _ => False | .error e => X.xe e s') s := by
  refine codeAny_mono (FO.go X.A X.stack s H args us vs Q E hr J.env0 hb r h) fun rr s' hq => ?_
  match rr, hq with
  | .error e, hq => exact hx pins σ H s e s' J hq
  | .ok (.ret u), hq => exact J.after hq
  | .ok .next, hq => exact hq
  | .ok .brk, hq => exact hq
  | .ok .cont, hq => exact hq
theorem wg_call {P : SD → MS → Prop} (FO : FnG X.prog X.w X.K X.mg X.base CX0 k f fd ps (SpD X.K F)) (hr : Rm k X.A) (hm : X.mg x = some (.ref f)) (hk : PySem.W.keepIn X.K (.ref f) = true) (hb : Binds X.K fd ps [])
    (h : WA X (e :: es) ds m fun xs m1 => ∃ fr mc, m1 = fr ++ mc ∧ F xs mc fun d m2 => P d (fr ++ m2)) (hg : Gl X x := by rfl) (hdb : (x == ("__debug__" : Str)) = false := by decide)
    (he : starEach (e :: es) X.env = (false, eval e X.env) :: starEach es X.env := by rfl) (hpl : (backTo pos (starEach es X.env)).any (·.1) = false := by rfl) : WE X (.Call (.Name x p) (e :: es) [] pos) ds m P := fun σ G H E w Q q => by
  intro pins s J
  refine wpAny_Call_Name_kw (ld_glob J hg hm ?_ hdb)
  refine PySem.W.callWith_K (h₀ := X.base) J.ok.mod.kin hk (thn (h σ G H E w (fun vs H1 => SpD X.K F vs H1 Q E0) (fun vs xs m1 G1 H1 g1 r1 ⟨fr, mc, e1, hF⟩ => ?_) pos pins s J) fun us s1 ⟨vs, H1, J1, r, hsp⟩ => ⟨J1.kIn, ?_⟩) he hpl
  · subst e1
    exact ⟨G1, mc, xs, _, g1.wd.sub, r1, hF, fun v d m' G' H' g2 r2 p => q v d _ G' H' (g1.trans (Gr.frame g1.wd g2)) r2 p⟩
  · have hl : us.length = ps.length := by rw [← r.length]; exact FO.len _ _ _ _ hsp
    have b0 := hb s1 us J1.kIn (by rw [List.append_nil]; exact hl)
    rw [List.append_nil] at b0
    exact wpAny_call (codeAny_mono (run_fnG FO hr b0 pass0 J1 r hsp) fun rr s' hq => by
      match rr, hq with
      | .error e, hq => exact hq
      | .ok (.ret u), hq => exact hq
      | .ok .next, hq => exact hq.elim
      | .ok .brk, hq => exact hq.elim
      | .ok .cont, hq => exact hq.elim)
theorem eg_call {R : List SD → SD → Prop} {xs : List SD} {z : SD} (FO : FnG X.prog X.w X.K X.mg X.base CX0 k f fd ps (SpD X.K (pureF R))) (hr : Rm k X.A) (hm : X.mg x = some (.ref f)) (hk : PySem.W.keepIn X.K (.ref f) = true) (hb : Binds X.K fd ps [])
    (h : EA X (e :: es) ds xs) (hz : R xs z) (hg : Gl X x := by rfl) (hdb : (x == ("__debug__" : Str)) = false := by decide)
    (he : starEach (e :: es) X.env = (false, eval e X.env) :: starEach es X.env := by rfl) (hpl : (backTo pos (starEach es X.env)).any (·.1) = false := by rfl) : EE X (.Call (.Name x p) (e :: es) [] pos) ds z := fun m =>
  wg_call FO hr hm hk hb (h.to ⟨m, [], (List.append_nil m).symm, z, hz, rfl, List.append_nil m⟩) hg hdb he hpl
/-- f() -/
theorem eg_call0 {R : List SD → SD → Prop} {z : SD} (FO : FnG X.prog X.w X.K X.mg X.base CX0 k f fd [] (SpD X.K (pureF R))) (hr : Rm k X.A) (hm : X.mg x = some (.ref f)) (hk : PySem.W.keepIn X.K (.ref f) = true) (hb : Binds X.K fd [] [])
    (hz : R [] z) (hg : Gl X x := by rfl) (hdb : (x == ("__debug__" : Str)) = false := by decide) : EE X (.Call (.Name x p) [] [] pos) ds z := fun m σ G H E w Q q => by
  intro pins s J
  refine wpAny_Call_Name_kw (ld_glob J hg hm ?_ hdb)
  refine PySem.W.callWith_K0 J.kIn hk (wpAny_call (codeAny_mono (run_fnG (vs := []) (us := []) (Q := Q) FO hr (hb s [] J.kIn rfl) pass0 J .nil ⟨G, [], [], (fun d m' => d = z ∧ m' = []), ⟨w.w, fun _ h => (nomatch h), List.nodup_nil⟩, .nil, ⟨z, hz, rfl, rfl⟩, fun v d m' G' H' g2 r2 ⟨e1, e2⟩ => ?_⟩) fun rr s' hq => by
      match rr, hq with
      | .error e, hq => exact hq
      | .ok (.ret u), hq => exact hq
      | .ok .next, hq => exact hq.elim
      | .ok .brk, hq => exact hq.elim
      | .ok .cont, hq => exact hq.elim))
  subst e1 e2
  have g3 := Gr.frame (fr := m) (by rw [List.append_nil]; exact w) g2
  rw [List.append_nil] at g3
  exact q v d m G' H' g3 r2 ⟨rfl, rfl⟩
/-- the keywords' values -/
def EK (X : Cx) (kws : List Keyword) (ds : DE) (xs : List SD) : Prop := ∀ m σ G H, EnvD X.K G σ ds → Wd X.K m G H → ∀ Q : List V → Hp → Prop, (∀ vs G' H', Gr X.K m m G H G' H' → DSs X.K G' vs xs → Q vs H') →
  ∀ (pos : Pos) pins s, Inv X pins σ H s → wpAny (model X.prog X.w) X.A (evalAll ((backToKw pos (keywordEach kws X.env)).map (·.2))) (AP X pins σ Q) X.xe s
theorem ek_nil : EK X [] ds [] := fun m σ G H E w Q q pos pins s J => pk_nil.run pos pins s σ H Q J (q _ _ _ (.refl w) .nil)
theorem ek_cons {nm : Option Str} {kpos : Pos} {kws : List Keyword} {d : SD} {xs : List SD} (h : EE X e ds d) (h2 : EK X kws ds xs) : EK X (⟨nm, e, kpos⟩ :: kws) ds (d :: xs) := fun m σ G H E w Q q pos pins s J => by
  have p : PK X kws (fun σ H Q => ∀ (pos : Pos) pins s, Inv X pins σ H s → wpAny (model X.prog X.w) X.A (evalAll ((backToKw pos (keywordEach kws X.env)).map (·.2))) (AP X pins σ Q) X.xe s) := ⟨fun pos pins s σ H Q J h => h pos pins s J⟩
  refine (pk_cons (pE e) p).run pos pins s σ H Q J (h m σ G H E w _ fun v d' m1 G1 H1 g1 r1 ⟨e1, e2⟩ => ?_)
  subst e1 e2
  exact h2 m1 σ G1 H1 (E.mono g1.g) g1.wd _ fun vs G2 H2 g2 r2 => q _ _ _ (g1.trans g2) (.cons (ds_mono g2.g r1) r2)
/-- f(k = e, ..): all by keywords; gU, gV, gD bring them to the parameters' sequence -/
theorem eg_callK {kws : List Keyword} {ks : List Str} {gU : List Value → List Value} {gV : List V → List V} {R : List SD → SD → Prop} {z : SD} {xs ys : List SD} (FO : FnG X.prog X.w X.K X.mg X.base CX0 k f fd ps (SpD X.K (pureF R))) (hr : Rm k X.A) (hm : X.mg x = some (.ref f)) (hk : PySem.W.keepIn X.K (.ref f) = true)
    (hb : ∀ (s : Shared) (us : List Value), X.K.In s.heap → us.length = ks.length → BindsTo s fd ⟨[], ks.zip us⟩ (ps.zip (gU us))) (hl : xs.length = ks.length) (hV : ∀ vs us, Vals vs us → Vals (gV vs) (gU us)) (hD : ∀ G vs, DSs X.K G vs xs → DSs X.K G (gV vs) ys)
    (h : EK X kws ds xs) (hz : R ys z) (hg : Gl X x := by rfl) (hall : (backToKw pos (keywordEach kws X.env)).all (·.1.isSome) = true := by rfl) (hks : (backToKw pos (keywordEach kws X.env)).filterMap (·.1) = ks := by rfl) (hdb : (x == ("__debug__" : Str)) = false := by decide)
    (hpl : ((backTo pos (starEach [] X.env)).any (·.1) || (backToKw pos (keywordEach kws X.env)).any (·.1.isNone)) = false := by rfl) : EE X (.Call (.Name x p) [] kws pos) ds z := fun m σ G H E w Q q => by
  intro pins s J
  refine wpAny_Call_Name_kw (ld_glob J hg hm ?_ hdb)
  refine PySem.W.callWith_KW0 (h₀ := X.base) J.ok.mod.kin hk hall ?_ hpl
  refine thn (h m σ G H E w (fun vs H1 => vs.length = ks.length ∧ SpD X.K (pureF R) (gV vs) H1 Q E0) (fun vs G1 H1 g1 r1 => ⟨by rw [r1.length, hl], ?_⟩) pos pins s J) fun us s1 ⟨vs, H1, J1, r, hn, hsp⟩ => ⟨J1.kIn, ?_⟩
  · refine ⟨G1, [], ys, (fun d m' => d = z ∧ m' = []), ⟨g1.wd.w, fun _ h => (nomatch h), List.nodup_nil⟩, hD _ _ r1, ⟨z, hz, rfl, rfl⟩, fun v d m' G' H' g2 r2 ⟨e1, e2⟩ => ?_⟩
    subst e1 e2
    have g3 := Gr.frame (fr := m) (by rw [List.append_nil]; exact g1.wd) g2
    rw [List.append_nil] at g3
    exact q v d m G' H' (g1.trans g3) r2 ⟨rfl, rfl⟩
  · rw [hks, List.nil_append]
    exact wpAny_call (codeAny_mono (run_fnG FO hr (hb s1 us J1.kIn (by rw [← r.length]; exact hn)) pass0 J1 (hV _ _ r) hsp) fun rr s' hq => by
      match rr, hq with
      | .error e, hq => exact hq
      | .ok (.ret u), hq => exact hq
      | .ok .next, hq => exact hq.elim
      | .ok .brk, hq => exact hq.elim
      | .ok .cont, hq => exact hq.elim)
end

/-! ### repr of plain data -/
section
variable {X : Cx} {ds : DE} {m : MS} {e : Expr} {pos p : Pos}
theorem depth_le (d : PyData) : True := trivial
theorem call_repr_py (hg : X.A.guards = some []) {d : PyData} (hu : X.A.units + 64 < cLine) (hd : d.depth ≤ 50) (hs : d.showable = true) (hn : d.hasDict = false) (hz : d.shown.length ≤ sizeLine) :
    CallR X (.builtin "repr") (fun vs H Q => ∃ v, vs = [v] ∧ Dp X.K H v d ∧ Q (.str d.shown) H) := fun pins s σ H vs us Q J r ⟨v, e1, h, q⟩ => by
  subst e1
  obtain ⟨u, rfl, ru⟩ := r.one
  obtain ⟨as, rd⟩ := Dp.reads J d v u h ru
  have fin : ∀ (h' : Heap) (tk0 tk : Nat), (∀ b o, s.heap.get? b = some o → h'.get? b = some o) → EP X pins σ Q (.str d.shown tk0) { s with heap := h', toks := tk } := fun h' u' tk hk => ⟨.str d.shown, H, J.kept hk, ⟨_, rfl⟩, q⟩
  cases v with
  | ref a =>
    obtain rfl : u = .ref a := ru
    exact repr_of_reads' (h₀ := s.heap) rd hs (fun z => by rw [hn] at z; cases z) hg (by omega) (fun _ _ e => e) (fun h' u' tk hk => fin h' u' tk hk) hz
  | int i =>
    cases h
    obtain ⟨t, rfl⟩ := ru
    exact PySem.P.repr_of_int (by simpa [PyData.showable] using hs) (fin s.heap _ _ fun _ _ e => e)
  | str x =>
    cases h
    obtain ⟨t, rfl⟩ := ru
    exact PySem.P.repr_of_str (fin s.heap _ _ fun _ _ e => e) hz
  | bl b =>
    cases h
    obtain rfl : u = .bool b := ru
    exact PySem.P.repr_of_bool (fin s.heap _ _ fun _ _ e => e)
  | non =>
    cases h
    obtain rfl : u = .none := ru
    exact PySem.P.repr_of_none (fin s.heap _ _ fun _ _ e => e)
  | _ => cases h
theorem ee_repr {d : PyData} (h : EE X e ds (.py d)) (hr : Rm 0 X.A) (hd : d.depth ≤ 50) (hs : d.showable = true) (hn : d.hasDict = false) (hz : d.shown.length ≤ sizeLine) (hm : X.mg "repr" = none) (hg : Gl X "repr" := by rfl) (he : starEach (e :: []) X.env = (false, eval e X.env) :: starEach [] X.env := by rfl) (hpl : (backTo pos (starEach [] X.env)).any (·.1) = false := by rfl) :
    EE X (.Call (.Name "repr" p) [e] [] pos) ds (.py (.str d.shown)) :=
  ee_callB (ea_cons h ea_nil he) (fun m => ⟨_, call_repr_py hr.g (by have := hr.r.un; omega) hd hs hn hz, fun G H vs w r Q q => by
    cases r with
    | cons r1 r2 =>
      cases r2
      cases r1 with
      | py r1 => exact ⟨_, rfl, dp_mono w.w r1, q _ _ _ (.refl w) (.py (.str _))⟩⟩) hm (by decide +kernel) hg (by decide) (by decide) he hpl
end
end W9
namespace W9
open PySem PySem.Spec PyProof.Rows L2
/-! ### texts as lists of numbers -/
theorem str_len (l : List Nat) : (⟨l.toArray⟩ : Str).length = l.length := by show l.toArray.size = _; exact List.size_toArray ..
theorem str_app (a b : List Nat) : (⟨a.toArray⟩ : Str) ++ (⟨b.toArray⟩ : Str) = ⟨(a ++ b).toArray⟩ := by
  show (⟨a.toArray ++ b.toArray⟩ : Str) = _
  rw [List.append_toArray]
theorem str_inj {a b : List Nat} : ((⟨a.toArray⟩ : Str) = ⟨b.toArray⟩) ↔ a = b := ⟨fun h => by
  have h := congrArg (fun s => s.cps.toList) h
  simpa using h, fun h => by rw [h]⟩
theorem S_inj {a b : List Nat} : (S a = S b) ↔ a = b := ⟨fun h => by
  injection h with h
  injection h with h
  exact str_inj.mp h, fun h => by rw [h]⟩
theorem line_of {n : Nat} (h : n ≤ 1000000) : n ≤ sizeLine := Nat.le_trans h (by decide)
theorem line_lt {n : Nat} (h : n ≤ 1000000) : n < sizeLine := Nat.lt_of_le_of_lt h (by decide)

section
variable {X : Cx} {m : MS}
/-! ### operators -/
theorem b_int {op : Operator} {C : Int → Int → Prop} {g : Int → Int → Int} (ho : OpR X (binaryOp op) (rI C fun i j => .int (g i j))) {i j : Int} (hc : C i j) : BinD X op (I i) (I j) (I (g i j)) := ⟨_, ho, fun m G H v u w r1 r2 Q q => by
  cases ds_int r1
  cases ds_int r2
  exact ⟨i, j, rfl, rfl, hc, q _ _ _ (.refl w) (.py (.int _))⟩⟩
theorem b_int0 {op : Operator} {g : Int → Int → Int} (ho : OpR X (binaryOp op) (rI0 fun i j => .int (g i j))) {i j : Int} : BinD X op (I i) (I j) (I (g i j)) := ⟨_, ho, fun m G H v u w r1 r2 Q q => by
  cases ds_int r1
  cases ds_int r2
  exact ⟨i, j, rfl, rfl, q _ _ _ (.refl w) (.py (.int _))⟩⟩
theorem bd_add {i j : Int} : BinD X .Add (I i) (I j) (I (i + j)) := b_int0 op_add
theorem bd_sub {i j : Int} : BinD X .Sub (I i) (I j) (I (i - j)) := b_int0 op_sub
theorem bd_mul {i j : Int} (h : (-(2 ^ 64) < i ∧ i < 2 ^ 64) ∨ (-(2 ^ 64) < j ∧ j < 2 ^ 64)) : BinD X .Mult (I i) (I j) (I (i * j)) := b_int op_mul h
theorem bd_mod {i j : Int} (h : 0 < j) : BinD X .Mod (I i) (I j) (I (i % j)) := b_int op_mod h
theorem bd_div {i j : Int} (h : 0 < j ∧ j < 1073741824) : BinD X .FloorDiv (I i) (I j) (I (i / j)) := b_int op_fdiv h
theorem bd_pow {i j : Int} (h : 0 ≤ j ∧ j ≤ 1000000 ∧ i.natAbs < 2 ^ 64) : BinD X .Pow (I i) (I j) (I (i ^ j.toNat)) := b_int op_pow h
theorem op_powX : OpR X (binaryOp .Pow) (rI (fun i j => 0 ≤ j ∧ (Builtin.Int.intBits i : Int) * j ≤ 2 ^ 27) fun i j => .int (i ^ j.toNat)) := fun pins s σ H x y v u Q J rx ry ⟨i, j, e1, e2, ⟨h1, h2⟩, q⟩ => by
  subst e1 e2
  obtain ⟨t, rfl⟩ := rx
  obtain ⟨t', rfl⟩ := ry
  exact PyProof.Rows.pow_int h1 h2 ⟨.int _, H, J.tok _, ⟨_, rfl⟩, q⟩
theorem bd_powX {i j : Int} (h : 0 ≤ j ∧ (Builtin.Int.intBits i : Int) * j ≤ 2 ^ 27) : BinD X .Pow (I i) (I j) (I (i ^ j.toNat)) := b_int op_powX h
theorem bd_addS {a b : List Nat} (h : a.length + b.length ≤ 1000000) : BinD X .Add (S a) (S b) (S (a ++ b)) := ⟨_, op_add_str, fun m G H v u w r1 r2 Q q => by
  cases ds_str r1
  cases ds_str r2
  refine ⟨_, _, rfl, rfl, by rw [str_len, str_len]; exact line_of h, ?_⟩
  rw [str_app]
  exact q _ _ _ (.refl w) (.py (.str _))⟩
/-- a text said n times -/
def rep (n : Nat) (l : List Nat) : List Nat := (List.replicate n l).flatten
theorem rep_length (n : Nat) (l : List Nat) : (rep n l).length = n * l.length := by
  unfold rep
  induction n with
  | zero => simp
  | succ n ih => rw [List.replicate_succ, List.flatten_cons, List.length_append, ih, Nat.succ_mul]; omega
theorem fold_app (c : Array Nat) : ∀ (n : Nat) (acc : Array Nat), (List.replicate n c).foldl (· ++ ·) acc = acc ++ ((List.replicate n c.toList).flatten).toArray
  | 0, acc => by simp
  | n + 1, acc => by
    rw [List.replicate_succ, List.foldl_cons, fold_app c n, List.replicate_succ, List.flatten_cons]
    apply Array.ext'
    simp
theorem txt_mul (l : List Nat) (n : Int) : Txt.mul ⟨l.toArray⟩ n = ⟨(rep n.toNat l).toArray⟩ := by
  unfold Txt.mul
  by_cases h : n < 1
  · rw [if_pos h]
    have e : n.toNat = 0 := by omega
    rw [e]
    rfl
  · rw [if_neg h]
    by_cases h2 : (n == 1 || (⟨l.toArray⟩ : Str).length == 0) = true
    · rw [if_pos h2]
      rw [str_len] at h2
      simp only [Bool.or_eq_true, beq_iff_eq] at h2
      rcases h2 with h2 | h2
      · subst h2
        unfold rep
        simp
      · have e : l = [] := List.length_eq_zero_iff.mp h2
        subst e
        unfold rep
        simp
    · rw [if_neg h2, fold_app]
      unfold rep
      simp
theorem op_mulS : OpR X (binaryOp .Mult) (fun x y H Q => ∃ (l : List Nat) (n : Int), x = .str ⟨l.toArray⟩ ∧ y = .int n ∧ n ≤ 1000000 ∧ -1000000 ≤ n ∧ l.length * n.toNat ≤ 1000000 ∧ Q (.str ⟨(rep n.toNat l).toArray⟩) H) := fun pins s σ H x y v u Q J rx ry ⟨l, n, e1, e2, hn, hn2, hz, q⟩ => by
  subst e1 e2
  obtain ⟨t, rfl⟩ := rx
  obtain ⟨t', rfl⟩ := ry
  refine SB.mul ⟨?_, fun h1 h2 => ?_, fun h1 h2 => ?_⟩ fun t' k => ?_
  · simp only [Bool.or_eq_false_iff, decide_eq_false_iff_not]
    omega
  · rw [str_len]
    have h3 : (l.length : Int) ≤ 1000000 := by
      have h4 : l.length * 1 ≤ l.length * n.toNat := Nat.mul_le_mul_left _ (by omega)
      omega
    have h5 : (1000000 : Int) ≤ (2 ^ 63 - 1) / n := by
      rw [Int.le_ediv_iff_mul_le (by omega)]
      have : (1000000 : Int) * n ≤ 1000000 * 1000000 := Int.mul_le_mul_of_nonneg_left hn (by omega)
      omega
    omega
  · unfold Builtin.Str.tooLong
    rw [str_len]
    have := line_of hz
    simp only [decide_eq_false_iff_not]
    omega
  · rw [txt_mul]
    exact ⟨.str _, H, J.tok _, ⟨_, rfl⟩, q⟩
theorem bd_mulS {l : List Nat} {n : Int} (h : n ≤ 1000000 ∧ -1000000 ≤ n ∧ l.length * n.toNat ≤ 1000000) : BinD X .Mult (S l) (I n) (S (rep n.toNat l)) := ⟨_, op_mulS, fun m G H v u w r1 r2 Q q => by
  cases ds_str r1
  cases ds_int r2
  exact ⟨l, n, rfl, rfl, h.1, h.2.1, h.2.2, q _ _ _ (.refl w) (.py (.str _))⟩⟩
theorem op_catD : OpR X (binaryOp .Add) (fun x y H Q => ∃ a b xs ys, x = .ref a ∧ y = .ref b ∧ SqL X.K H a xs ∧ SqL X.K H b ys ∧ xs.length + ys.length ≤ 1000000 ∧ ∀ p, H p = none → Q (.ref p) (upd H p (.lst (xs ++ ys)))) := fun pins s σ H x y v u Q J rx ry ⟨a, b, xs, ys, e1, e2, h1, h2, hz, q⟩ => by
  subst e1 e2
  obtain rfl : v = .ref a := rx
  obtain rfl : u = .ref b := ry
  obtain ⟨its, r1, ⟨o1, n1, g1, c1, d1, e1⟩, z1⟩ := J.list h1
  obtain ⟨its2, r2, ⟨o2, n2, g2, c2, d2, e2⟩, z2⟩ := J.list h2
  obtain ⟨cl1, di1, da1, sl1⟩ := o1
  obtain ⟨cl2, di2, da2, sl2⟩ := o2
  obtain ⟨rfl, rfl, rfl⟩ : cl1 = .type "list" ∧ di1 = none ∧ da1 = .seq its.toArray n1 := ⟨c1, d1, e1⟩
  obtain ⟨rfl, rfl, rfl⟩ : cl2 = .type "list" ∧ di2 = none ∧ da2 = .seq its2.toArray n2 := ⟨c2, d2, e2⟩
  have hl : its.length + its2.length ≤ sizeLine := by rw [← r1.length, ← r2.length]; exact line_of hz
  have M := list_addW a b its.toArray its2.toArray n1 n2 none none sl1 sl2 (by simpa using hl)
  refine concat_meets (T := "list") ⟨_, g1, rfl⟩ ⟨_, g2, rfl⟩ noFill_list_add seq_list_add PySem.F.slot_list_add PySem.F.entry_list_add (PySem.F.args_list_add_2 _ _) M ⟨g1, g2, ?_⟩
  have e : its.toArray ++ its2.toArray = (its ++ its2).toArray := by simp
  rw [e]
  exact ⟨.ref _, _, J.lnew (t' := s.toks) (r1.append r2) (by rw [List.length_append]; exact line_of hz), rfl, q _ J.fresh⟩
theorem bd_catL {a b : List PyData} (h : a.length + b.length ≤ 1000000) : BinD X .Add (Ls a) (Ls b) (Ls (a ++ b)) := ⟨_, op_catD, fun m G H v u w r1 r2 Q q => by
  obtain ⟨p1, xs, rfl, h1, h2⟩ := ds_lst r1
  obtain ⟨p2, ys, rfl, h3, h4⟩ := ds_lst r2
  have l1 := dpa_length h2
  have l2 := dpa_length h4
  refine ⟨p1, p2, xs, ys, rfl, rfl, ex_l w.w h1, ex_l w.w h3, by omega, fun p hp => ?_⟩
  have g := Gr.new (o := .lst (xs ++ ys)) w hp
  exact q _ _ _ g (.py (.lst (SqL.of upd_same) (dpa_mono g.g (dpa_append h2 h4))))⟩
/-! ### comparisons -/
theorem c_int {op : CmpOp} {g : Int → Int → Bool} (ho : OpR X (compareOp op) (rI0 fun i j => .bl (g i j))) {i j : Int} : CmpD X op (I i) (I j) (g i j) := ⟨_, ho, fun m G H v u w r1 r2 Q q => by
  cases ds_int r1
  cases ds_int r2
  exact ⟨i, j, rfl, rfl, q _ _ _ (.refl w) (.py (.bl _))⟩⟩
theorem cd_lt {i j : Int} : CmpD X .Lt (I i) (I j) (decide (i < j)) := c_int op_lt
theorem cd_le {i j : Int} : CmpD X .LtE (I i) (I j) (decide (i ≤ j)) := c_int op_le
theorem cd_gt {i j : Int} : CmpD X .Gt (I i) (I j) (decide (j < i)) := c_int op_gt
theorem cd_ge {i j : Int} : CmpD X .GtE (I i) (I j) (decide (j ≤ i)) := c_int op_ge
theorem cd_eq {i j : Int} : CmpD X .Eq (I i) (I j) (decide (i = j)) := ⟨_, op_eq, fun m G H v u w r1 r2 Q q => by
  cases ds_int r1
  cases ds_int r2
  refine ⟨rfl, ?_⟩
  have e : decide (V.int i = V.int j) = decide (i = j) := decide_eq_decide.mpr ⟨V.int.inj, congrArg _⟩
  rw [e]
  exact q _ _ _ (.refl w) (.py (.bl _))⟩
theorem cd_ne {i j : Int} : CmpD X .NotEq (I i) (I j) (!decide (i = j)) := ⟨_, op_ne, fun m G H v u w r1 r2 Q q => by
  cases ds_int r1
  cases ds_int r2
  refine ⟨rfl, ?_⟩
  have e : decide (V.int i = V.int j) = decide (i = j) := decide_eq_decide.mpr ⟨V.int.inj, congrArg _⟩
  rw [e]
  exact q _ _ _ (.refl w) (.py (.bl _))⟩
theorem cd_eqS {a b : List Nat} : CmpD X .Eq (S a) (S b) (decide (a = b)) := ⟨_, op_eq, fun m G H v u w r1 r2 Q q => by
  cases ds_str r1
  cases ds_str r2
  refine ⟨rfl, ?_⟩
  have e : decide (V.str ⟨a.toArray⟩ = V.str ⟨b.toArray⟩) = decide (a = b) := decide_eq_decide.mpr ⟨fun h => str_inj.mp (V.str.inj h), fun h => by rw [h]⟩
  rw [e]
  exact q _ _ _ (.refl w) (.py (.bl _))⟩
theorem cd_neS {a b : List Nat} : CmpD X .NotEq (S a) (S b) (!decide (a = b)) := ⟨_, op_ne, fun m G H v u w r1 r2 Q q => by
  cases ds_str r1
  cases ds_str r2
  refine ⟨rfl, ?_⟩
  have e : decide (V.str ⟨a.toArray⟩ = V.str ⟨b.toArray⟩) = decide (a = b) := decide_eq_decide.mpr ⟨fun h => str_inj.mp (V.str.inj h), fun h => by rw [h]⟩
  rw [e]
  exact q _ _ _ (.refl w) (.py (.bl _))⟩
theorem cd_eqT {a b : Str} : CmpD X .Eq (.py (.str a)) (.py (.str b)) (decide (a = b)) := ⟨_, op_eq, fun m G H v u w r1 r2 Q q => by
  cases ds_str r1
  cases ds_str r2
  refine ⟨rfl, ?_⟩
  have e : decide (V.str a = V.str b) = decide (a = b) := decide_eq_decide.mpr ⟨fun h => V.str.inj h, fun h => by rw [h]⟩
  rw [e]
  exact q _ _ _ (.refl w) (.py (.bl _))⟩
theorem cd_neT {a b : Str} : CmpD X .NotEq (.py (.str a)) (.py (.str b)) (!decide (a = b)) := ⟨_, op_ne, fun m G H v u w r1 r2 Q q => by
  cases ds_str r1
  cases ds_str r2
  refine ⟨rfl, ?_⟩
  have e : decide (V.str a = V.str b) = decide (a = b) := decide_eq_decide.mpr ⟨fun h => V.str.inj h, fun h => by rw [h]⟩
  rw [e]
  exact q _ _ _ (.refl w) (.py (.bl _))⟩
theorem cd_ltS {a b : List Nat} : CmpD X .Lt (S a) (S b) (decide (a < b)) := ⟨_, op_lt_str, fun m G H v u w r1 r2 Q q => by
  cases ds_str r1
  cases ds_str r2
  exact ⟨_, _, rfl, rfl, q _ _ _ (.refl w) (.py (.bl _))⟩⟩
theorem cd_leS {a b : List Nat} : CmpD X .LtE (S a) (S b) (!decide (b < a)) := ⟨_, op_le_str, fun m G H v u w r1 r2 Q q => by
  cases ds_str r1
  cases ds_str r2
  exact ⟨_, _, rfl, rfl, q _ _ _ (.refl w) (.py (.bl _))⟩⟩
theorem cd_gtS {a b : List Nat} : CmpD X .Gt (S a) (S b) (decide (b < a)) := ⟨_, op_gt_str, fun m G H v u w r1 r2 Q q => by
  cases ds_str r1
  cases ds_str r2
  exact ⟨_, _, rfl, rfl, q _ _ _ (.refl w) (.py (.bl _))⟩⟩
theorem cd_inS {c : Nat} {b : List Nat} : CmpD X .In (S [c]) (S b) (decide (c ∈ b)) := ⟨_, op_in_sign, fun m G H v u w r1 r2 Q q => by
  cases ds_str r1
  cases ds_str r2
  exact ⟨c, _, rfl, rfl, q _ _ _ (.refl w) (.py (.bl _))⟩⟩
theorem cd_notinS {c : Nat} {b : List Nat} : CmpD X .NotIn (S [c]) (S b) (!decide (c ∈ b)) := ⟨_, op_notIn_sign, fun m G H v u w r1 r2 Q q => by
  cases ds_str r1
  cases ds_str r2
  exact ⟨c, _, rfl, rfl, q _ _ _ (.refl w) (.py (.bl _))⟩⟩
def isNone : PyData → Bool
  | .none => true
  | _ => false
theorem dp_none {K : PySem.W.Frag} {G : Hp} {v : V} {d : PyData} (h : Dp K G v d) : decide (v = .non) = isNone d := by cases h <;> rfl
theorem cd_isN {d : PyData} : CmpD X .Is (.py d) N0 (isNone d) := ⟨_, op_isN, fun m G H v u w r1 r2 Q q => by
  cases ds_non r2
  cases r1 with
  | py r1 => exact ⟨rfl, by rw [dp_none r1]; exact q _ _ _ (.refl w) (.py (.bl _))⟩⟩
theorem cd_notN {d : PyData} : CmpD X .IsNot (.py d) N0 (!isNone d) := ⟨_, op_notN, fun m G H v u w r1 r2 Q q => by
  cases ds_non r2
  cases r1 with
  | py r1 => exact ⟨rfl, by rw [dp_none r1]; exact q _ _ _ (.refl w) (.py (.bl _))⟩⟩
/-! ### items -/
theorem at_nn {α : Type} {l : List α} {i : Int} {c : α} (h0 : 0 ≤ i) (h : l[i.toNat]? = some c) : atI l i = some c := by
  have hl := (List.getElem?_eq_some_iff.mp h).1
  unfold atI ixN
  rw [if_pos h0, if_pos (by omega)]
  exact h
theorem sd_str {l : List Nat} {i : Int} {c : Nat} (h : atI l i = some c) (hz : l.length ≤ 1000000) : SubD X m (S l) (I i) (S [c]) := ⟨_, ix_str, fun G H v u w r1 r2 Q q => by
  cases ds_str r1
  cases ds_int r2
  exact ⟨_, i, c, rfl, rfl, by rw [str_len]; exact line_of hz, h, q _ _ _ (.refl w) (.py (.str _))⟩⟩
theorem atI_dp {K : PySem.W.Frag} {G : Hp} {vs : List V} {l : List PyData} {i : Int} {d : PyData} (h : DpAll K G vs l) (e : atI l i = some d) : ∃ v, atI vs i = some v ∧ Dp K G v d := by
  have hl := dpa_length h
  unfold atI at e ⊢
  rw [hl]
  cases q : ixN l.length i with
  | none => rw [q] at e; cases e
  | some j =>
    rw [q] at e
    exact dpa_get h e
theorem sd_tup {l : List PyData} {i : Int} {d : PyData} (h : atI l i = some d) : SubD X m (Tp l) (I i) (.py d) := ⟨_, ix_tup, fun G H v u w r1 r2 Q q => by
  obtain ⟨a, xs, rfl, h1, h2⟩ := ds_tup r1
  cases ds_int r2
  obtain ⟨x, h3, h4⟩ := atI_dp h2 h
  exact ⟨a, xs, i, x, rfl, rfl, ex_t w.w h1, h3, q _ _ _ (.refl w) (.py h4)⟩⟩
theorem sd_lst {l : List PyData} {i : Int} {d : PyData} (h : atI l i = some d) : SubD X m (Ls l) (I i) (.py d) := ⟨_, ix_list, fun G H v u w r1 r2 Q q => by
  obtain ⟨a, xs, rfl, h1, h2⟩ := ds_lst r1
  cases ds_int r2
  obtain ⟨x, h3, h4⟩ := atI_dp h2 h
  exact ⟨a, xs, i, x, rfl, rfl, ex_l w.w h1, h3, q _ _ _ (.refl w) (.py h4)⟩⟩
/-! ### slices -/
def cut {α : Type} (l : List α) (lo hi : Option Int) : List α := (l.drop (HT.sIx l.length 0 lo)).take (HT.sIx l.length l.length hi - HT.sIx l.length 0 lo)
theorem sl_S {l : List Nat} {lo hi : Option Int} (hz : l.length ≤ 1000000) : SlD X m (S l) lo hi (S (cut l lo hi)) := ⟨_, sl_str, fun G H v w r1 Q q => by
  cases ds_str r1
  refine ⟨_, rfl, by rw [str_len]; exact line_of hz, ?_⟩
  have e : cutS ⟨l.toArray⟩ lo hi = ⟨(cut l lo hi).toArray⟩ := by
    unfold cutS cut
    rw [str_len]
  rw [e]
  exact q _ _ _ (.refl w) (.py (.str _))⟩
theorem sl_L {l : List PyData} {lo hi : Option Int} : SlD X m (Ls l) lo hi (Ls (cut l lo hi)) := ⟨_, sl_list, fun G H v w r1 Q q => by
  obtain ⟨a, xs, rfl, h1, h2⟩ := ds_lst r1
  refine ⟨a, xs, rfl, ex_l w.w h1, fun p hp => ?_⟩
  have g := Gr.new (o := .lst (cutV xs lo hi)) w hp
  refine q _ _ _ g (.py (.lst (SqL.of upd_same) (dpa_mono g.g ?_)))
  have hl := dpa_length h2
  unfold cutV cut
  rw [hl]
  exact dpa_take _ (dpa_drop _ h2)⟩
theorem cut_nn {α : Type} (l : List α) (a b : Nat) : cut l (some (a : Int)) (some (b : Int)) = (l.drop a).take (b - a) := by
  unfold cut
  rw [HT.sIx_nat, HT.sIx_nat]
  by_cases h : l.length ≤ a
  · rw [List.drop_of_length_le (by omega), List.drop_of_length_le h]
    simp
  · have e1 : min a l.length = a := by omega
    rw [e1]
    by_cases h2 : b ≤ l.length
    · rw [Nat.min_eq_left h2]
    · rw [Nat.min_eq_right (by omega), List.take_of_length_le (by rw [List.length_drop]; omega), List.take_of_length_le (by rw [List.length_drop]; omega)]
theorem cut_n0 {α : Type} (l : List α) (a : Nat) : cut l (some (a : Int)) none = l.drop a := by
  unfold cut
  rw [HT.sIx_nat, HT.sIx_none]
  by_cases h : l.length ≤ a
  · rw [List.drop_of_length_le (by omega), List.drop_of_length_le h]
    simp
  · rw [Nat.min_eq_left (by omega), List.take_of_length_le (by rw [List.length_drop]; omega)]
theorem cut_0n {α : Type} (l : List α) (b : Nat) : cut l none (some (b : Int)) = l.take b := by
  unfold cut
  rw [HT.sIx_nat, HT.sIx_none, List.drop_zero, Nat.sub_zero]
  by_cases h2 : b ≤ l.length
  · rw [Nat.min_eq_left h2]
  · rw [Nat.min_eq_right (by omega), List.take_length, List.take_of_length_le (by omega)]
end
end W9
namespace W9
open PySem PySem.Spec PyProof.Rows L2
section
variable {X : Cx} {m : MS}
/-! ### calls of what is built in -/
theorem ca_one {f : Value} {x z : SD} {r : List V → Hp → VK → Prop} (hc : CallR X f r) (h : ∀ G H v, Wd X.K m G H → DS X.K G v x → ∀ Q : VK, (∀ w G' H', Gr X.K m m G H G' H' → DS X.K G' w z → Q w H') → r [v] H Q) : CaD X f m [x] z := ⟨r, hc, fun G H vs w rs Q q => by
  cases rs with
  | cons r1 r2 =>
    cases r2
    exact h G H _ w r1 Q q⟩
theorem ca_two {f : Value} {x y z : SD} {r : List V → Hp → VK → Prop} (hc : CallR X f r) (h : ∀ G H v u, Wd X.K m G H → DS X.K G v x → DS X.K G u y → ∀ Q : VK, (∀ w G' H', Gr X.K m m G H G' H' → DS X.K G' w z → Q w H') → r [v, u] H Q) : CaD X f m [x, y] z := ⟨r, hc, fun G H vs w rs Q q => by
  cases rs with
  | cons r1 r2 => cases r2 with
    | cons r2 r3 =>
      cases r3
      exact h G H _ _ w r1 r2 Q q⟩
theorem ca_lenS {l : List Nat} (hz : l.length ≤ 1000000) : CaD X (.builtin "len") m [S l] (I l.length) := ca_one call_len_str fun G H v w r Q q => by
  cases ds_str r
  refine ⟨_, rfl, by rw [str_len]; exact line_of hz, ?_⟩
  rw [str_len]
  exact q _ _ _ (.refl w) (.py (.int _))
theorem ca_lenL {l : List PyData} : CaD X (.builtin "len") m [Ls l] (I l.length) := ca_one call_len fun G H v w r Q q => by
  obtain ⟨a, xs, rfl, h1, h2⟩ := ds_lst r
  exact ⟨_, xs.length, rfl, .inl ⟨xs, ex_l w.w h1, rfl⟩, by rw [dpa_length h2]; exact q _ _ _ (.refl w) (.py (.int _))⟩
theorem ca_lenT {l : List PyData} : CaD X (.builtin "len") m [Tp l] (I l.length) := ca_one call_len fun G H v w r Q q => by
  obtain ⟨a, xs, rfl, h1, h2⟩ := ds_tup r
  exact ⟨_, xs.length, rfl, .inr ⟨xs, ex_t w.w h1, rfl⟩, by rw [dpa_length h2]; exact q _ _ _ (.refl w) (.py (.int _))⟩
theorem ca_int {i : Int} : CaD X (.type "int") m [I i] (I i) := ca_one call_int1 fun G H v w r Q q => by
  cases ds_int r
  exact .inl ⟨i, rfl, q _ _ _ (.refl w) (.py (.int _))⟩
theorem ca_intB {i : Bool} : CaD X (.type "int") m [B i] (I (if i then 1 else 0)) := ca_one call_int1 fun G H v w r Q q => by
  cases ds_bl r
  exact .inr ⟨i, rfl, q _ _ _ (.refl w) (.py (.int _))⟩
theorem ca_abs {i : Int} : CaD X (.builtin "abs") m [I i] (I (if i < 0 then -i else i)) := ca_one call_abs fun G H v w r Q q => by
  cases ds_int r
  exact ⟨i, rfl, q _ _ _ (.refl w) (.py (.int _))⟩
theorem ca_max2 (hc : X.calm = true) {i j : Int} : CaD X (.builtin "max") m [I i, I j] (I (if j > i then j else i)) := ca_two (call_max2 hc) fun G H v u w r r2 Q q => by
  cases ds_int r
  cases ds_int r2
  exact ⟨i, j, rfl, q _ _ _ (.refl w) (.py (.int _))⟩
theorem ca_min2 (hc : X.calm = true) {i j : Int} : CaD X (.builtin "min") m [I i, I j] (I (if j < i then j else i)) := ca_two (call_min2 hc) fun G H v u w r r2 Q q => by
  cases ds_int r
  cases ds_int r2
  exact ⟨i, j, rfl, q _ _ _ (.refl w) (.py (.int _))⟩
theorem dpa_ints {K : PySem.W.Frag} {G : Hp} : ∀ {ns : List Int} {vs : List V}, DpAll K G vs (ns.map .int) → vs = ns.map V.int
  | [], _, h => by cases h; rfl
  | n :: ns, _, h => by
    cases h with
    | cons a b => cases a; rw [dpa_ints b]; rfl
theorem dpa_bools {K : PySem.W.Frag} {G : Hp} : ∀ {ns : List Bool} {vs : List V}, DpAll K G vs (ns.map .bool) → vs = ns.map V.bl
  | [], _, h => by cases h; rfl
  | n :: ns, _, h => by
    cases h with
    | cons a b => cases a; rw [dpa_bools b]; rfl
theorem dpa_strs {K : PySem.W.Frag} {G : Hp} : ∀ {ns : List Str} {vs : List V}, DpAll K G vs (ns.map .str) → vs = ns.map V.str
  | [], _, h => by cases h; rfl
  | n :: ns, _, h => by
    cases h with
    | cons a b => cases a; rw [dpa_strs b]; rfl
theorem ca_sum (hc : X.calm = true) {ns : List Int} : CaD X (.builtin "sum") m [Ls (ns.map .int)] (I ns.sum) := ca_one (cr_sum hc) fun G H v w r Q q => by
  obtain ⟨a, xs, rfl, h1, h2⟩ := ds_lst r
  rw [dpa_ints h2] at h1
  exact ⟨a, ns, rfl, ex_l w.w h1, q _ _ _ (.refl w) (.py (.int _))⟩
theorem ca_all (hc : X.calm = true) {ns : List Bool} : CaD X (.builtin "all") m [Ls (ns.map .bool)] (B (ns.all id)) := ca_one (cr_all hc) fun G H v w r Q q => by
  obtain ⟨a, xs, rfl, h1, h2⟩ := ds_lst r
  rw [dpa_bools h2] at h1
  exact ⟨a, ns, rfl, ex_l w.w h1, q _ _ _ (.refl w) (.py (.bl _))⟩
theorem ca_any (hc : X.calm = true) {ns : List Bool} : CaD X (.builtin "any") m [Ls (ns.map .bool)] (B (ns.any id)) := ca_one (cr_any hc) fun G H v w r Q q => by
  obtain ⟨a, xs, rfl, h1, h2⟩ := ds_lst r
  rw [dpa_bools h2] at h1
  exact ⟨a, ns, rfl, ex_l w.w h1, q _ _ _ (.refl w) (.py (.bl _))⟩
theorem ca_ord {c : Nat} : CaD X (.builtin "ord") m [S [c]] (I c) := ca_one call_ord fun G H v w r Q q => by
  cases ds_str r
  exact ⟨_, rfl, rfl, q _ _ _ (.refl w) (.py (.int _))⟩
theorem ca_tupL {l : List PyData} : CaD X (.type "tuple") m [Ls l] (Tp l) := ca_one call_tuple_of fun G H v w r Q q => by
  obtain ⟨a, xs, rfl, h1, h2⟩ := ds_lst r
  refine ⟨a, xs, rfl, .inl ⟨ex_l w.w h1, fun p hp => ?_⟩⟩
  have g := Gr.new (o := .tup xs) w hp
  exact q _ _ _ g (.py (.tup (SqT.of upd_same) (dpa_mono g.g h2)))
theorem ca_listL {l : List PyData} : CaD X (.type "list") m [Ls l] (Ls l) := ca_one call_list_of fun G H v w r Q q => by
  obtain ⟨a, xs, rfl, h1, h2⟩ := ds_lst r
  refine ⟨a, xs, rfl, .inl (ex_l w.w h1), fun p hp => ?_⟩
  have g := Gr.new (o := .lst xs) w hp
  exact q _ _ _ g (.py (.lst (SqL.of upd_same) (dpa_mono g.g h2)))
theorem ca_listT {l : List PyData} : CaD X (.type "list") m [Tp l] (Ls l) := ca_one call_list_of fun G H v w r Q q => by
  obtain ⟨a, xs, rfl, h1, h2⟩ := ds_tup r
  refine ⟨a, xs, rfl, .inr (ex_t w.w h1), fun p hp => ?_⟩
  have g := Gr.new (o := .lst xs) w hp
  exact q _ _ _ g (.py (.lst (SqL.of upd_same) (dpa_mono g.g h2)))
/-- list(text) -/
theorem vals_signs : ∀ (l : List Nat) (a : List Value), a.length = l.length → (∀ (j : Nat) v, a[j]? = some v → ∃ c u, l[j]? = some c ∧ v = Value.str ⟨#[c]⟩ u) → Vals (l.map fun c => V.str ⟨#[c]⟩) a
  | [], [], _, _ => .nil
  | [], _ :: _, h, _ => by simp at h
  | _ :: _, [], h, _ => by simp at h
  | c :: l, x :: a, h, hi => by
    obtain ⟨c', u, h1, h2⟩ := hi 0 x rfl
    have e : c = c' := by simpa using h1
    subst e h2
    exact .cons ⟨u, rfl⟩ (vals_signs l a (by simpa using h) fun j v e => by
      obtain ⟨c, u, h1, h2⟩ := hi (j + 1) v (by simpa using e)
      exact ⟨c, u, by simpa using h1, h2⟩)
theorem call_list_txt (hc : X.calm = true) : CallR X (.type "list") (fun vs H Q => ∃ l : List Nat, vs = [.str ⟨l.toArray⟩] ∧ l.length ≤ 1000000 ∧ ∀ p, H p = none → Q (.ref p) (upd H p (.lst (l.map fun c => V.str ⟨#[c]⟩)))) := fun pins s σ H vs us Q J r ⟨l, e1, hz, q⟩ => by
  subst e1
  obtain ⟨u, rfl, t, rfl⟩ := r.one
  refine call_list_str (J.ok.hd hc) _ t (fun h' tk acc c hk hp it => ?_) (by show l.toArray.size ≤ _; rw [List.size_toArray]; exact line_of hz)
  have rv : Vals (l.map fun c => V.str ⟨#[c]⟩) acc.toList := by
    obtain ⟨hs, hi⟩ := it
    refine vals_signs l _ (by rw [Array.length_toList, hs]; simp) fun j v e => ?_
    obtain ⟨c, u, h1, h2⟩ := hi j v (by simpa using e)
    exact ⟨c, u, by simpa using h1, h2⟩
  have new : ObjOk X.prog X.w (upd H s.heap.objs.size (.lst (l.map fun c => V.str ⟨#[c]⟩))) h' s.heap.objs.size (.lst (l.map fun c => V.str ⟨#[c]⟩)) := ⟨by rw [List.length_map]; exact line_of hz, acc.toList, c, rv, by rw [hp]⟩
  exact ⟨.ref s.heap.objs.size, _, J.laid (t' := tk) hk (Nat.le_refl _) new, rfl, q _ J.fresh⟩
theorem dpa_signs {K : PySem.W.Frag} {G : Hp} : ∀ (l : List Nat), DpAll K G (l.map fun c => V.str ⟨#[c]⟩) (l.map fun c => PyData.str ⟨[c].toArray⟩)
  | [] => .nil
  | c :: l => .cons (.str _) (dpa_signs l)
theorem ca_listS (hc : X.calm = true) {l : List Nat} (hz : l.length ≤ 1000000) : CaD X (.type "list") m [S l] (Ls (l.map fun c => PyData.str ⟨[c].toArray⟩)) := ca_one (call_list_txt hc) fun G H v w r Q q => by
  cases ds_str r
  refine ⟨l, rfl, hz, fun p hp => ?_⟩
  have g := Gr.new (o := .lst (l.map fun c => V.str ⟨#[c]⟩)) w hp
  exact q _ _ _ g (.py (.lst (SqL.of upd_same) (dpa_signs l)))
/-! ### isinstance -/
theorem ca_isiStr {x : Str} : CaD X (.builtin "isinstance") m [.py (.str x), .raw (.ty "str")] (B true) := ca_two call_isi fun G H v u w r r2 Q q => by
  cases ds_str r
  cases ds_raw r2
  refine ⟨_, _, .type "str", .type "str", true, rfl, .ty "str", .base (.str _), ?_, q _ _ _ (.refl w) (.py (.bl _))⟩
  unfold PySem.W.kitOne
  rw [if_pos (by decide)]
/-- a built-in's name as a value -/
theorem ee_blt {ds : DE} {x : Str} {v : V} {u : Value} {pos : Pos} (hm : X.mg x = none) (hv : bootBuiltins x = some u) (r : RelV v u) (hg : Gl X x := by rfl) (hn : x ≠ "__name__" := by decide) (hd : (x == ("__debug__" : Str)) = false := by decide) : EE X (.Name x pos) ds (.raw v) :=
  ee_c (pe_bltn hg hm hv r hn hd) fun _ => .raw v

/-! ### methods of texts -/
theorem ty_str {l : List Nat} : ∀ G H v, Wd X.K m G H → DS X.K G v (S l) → tyV X.K "str" v H := fun G H v w r => by cases ds_str r; rfl
theorem md_index {l : List Nat} {c k : Nat} {rest : List Nat} (h : Builtin.Str.occurrences ⟨l.toArray⟩ ⟨#[c]⟩ 0 (⟨l.toArray⟩ : Str).length 1 = k :: rest) : MtD X "str" "str.index" m (S l) [S [c]] (I k) := ⟨ty_str, _, mt_sindex, fun G H v vs w r rs Q q => by
  cases ds_str r
  cases rs with
  | cons r1 r2 =>
    cases r2
    cases ds_str r1
    exact ⟨_, _, k, rest, rfl, rfl, h, q _ _ _ (.refl w) (.py (.int _))⟩⟩
/-- sep.join(texts) -/
def joinL (sep : List Nat) : List (List Nat) → List Nat
  | [] => []
  | [x] => x
  | x :: y :: r => x ++ sep ++ joinL sep (y :: r)
theorem joinL_nil : ∀ ls : List (List Nat), joinL [] ls = ls.flatten
  | [] => rfl
  | [x] => by simp [joinL]
  | x :: y :: r => by
    rw [joinL, joinL_nil (y :: r)]
    simp
theorem fold_join (sep : List Nat) : ∀ (r : List (List Nat)) (x : List Nat), (r.map fun l => (⟨l.toArray⟩ : Str)).foldl (fun acc p => acc ++ sep.toArray ++ p.cps) x.toArray = (joinL sep (x :: r)).toArray
  | [], x => rfl
  | y :: r, x => by
    rw [List.map_cons, List.foldl_cons]
    show (r.map fun l => (⟨l.toArray⟩ : Str)).foldl _ (x.toArray ++ sep.toArray ++ y.toArray) = _
    rw [List.append_toArray, List.append_toArray, fold_join sep r (x ++ sep ++ y)]
    cases r with
    | nil => rfl
    | cons z r => simp [joinL]
theorem txt_join (sep : List Nat) (ls : List (List Nat)) : Txt.join ⟨sep.toArray⟩ (ls.map fun l => ⟨l.toArray⟩) = ⟨(joinL sep ls).toArray⟩ := by
  unfold Txt.join Builtin.Str.glued
  cases ls with
  | nil => rfl
  | cons x r =>
    show (⟨(r.map fun l => (⟨l.toArray⟩ : Str)).foldl (fun acc p => acc ++ sep.toArray ++ p.cps) x.toArray⟩ : Str) = _
    rw [fold_join]
abbrev txts (ls : List (List Nat)) : List PyData := ls.map fun l => PyData.str ⟨l.toArray⟩
theorem md_join {sep : List Nat} {ls : List (List Nat)} (hz : (ls.map List.length).sum + ls.length * sep.length ≤ 1000000) : MtD X "str" "str.join" m (S sep) [Ls (txts ls)] (S (joinL sep ls)) := ⟨ty_str, _, mt_join, fun G H v vs w r rs Q q => by
  cases ds_str r
  cases rs with
  | cons r1 r2 =>
    cases r2
    obtain ⟨a, xs, rfl, h1, h2⟩ := ds_lst r1
    have e : txts ls = (ls.map fun l => (⟨l.toArray⟩ : Str)).map PyData.str := by rw [List.map_map]; rfl
    rw [e] at h2
    rw [dpa_strs h2] at h1
    refine ⟨_, a, _, rfl, rfl, .inl (ex_l w.w h1), ?_, ?_⟩
    · rw [List.map_map, List.length_map, str_len]
      have e2 : (ls.map (Str.length ∘ fun l => (⟨l.toArray⟩ : Str))) = ls.map List.length := List.map_congr_left fun l _ => str_len l
      rw [e2]
      omega
    · rw [txt_join]
      exact q _ _ _ (.refl w) (.py (.str _))⟩
end
/-! ### a dict that is owned: get -/
section
variable {X : Cx} {ds : DE} {m : MS} {pos : Pos}
theorem we_dget2 {o e f : Expr} {apos : Pos} {p : Addr} {kvs : List (Key × V)} {i : Int} {d : PyData} {P : SD → MS → Prop} (hu : X.A.units + 1 < cLine) (ho : EE X o ds (.raw (.ref p))) (h1 : EE X e ds (PySem.PyData.int i |> SD.py))
    (h2 : EE X f ds (.py d)) (hm : (p, OV.ho (.dK kvs)) ∈ m) (hz : ∀ G x, Dp X.K G x d → ∃ d', Dp X.K G ((valV kvs (Sum.inl i)).getD x) d' ∧ P (.py d') m) (hM : M2 X o "get" apos e f pos) : WE X (.Call (.Attribute o "get" apos) [e, f] [] pos) ds m P := fun σ G H E w Q q =>
  oE (pe_dget2 hu (pE o) (pE e) (pE f) hM) (ho m σ G H E w _ fun v d1 m1 G1 H1 g1 r1 ⟨e1, e2⟩ => by
    subst e1 e2
    cases ds_raw r1
    obtain ⟨_, o1, k1, k2⟩ := g1.wd.own _ hm
    have k2 : o1 = .dK kvs := k2
    subst k2
    refine ⟨p, rfl, .inl ⟨kvs, .inl k1⟩, ?_⟩
    refine h1 m1 σ G1 H1 (E.mono g1.g) g1.wd _ fun v2 d2 m2 G2 H2 g2 r2 ⟨e1, e2⟩ => ?_
    subst e1 e2
    refine h2 m2 σ G2 H2 (E.mono (g1.trans g2).g) g2.wd _ fun v3 d3 m3 G3 H3 g3 r3 ⟨e3, e4⟩ => ?_
    subst e3 e4
    obtain ⟨_, o3, k3, k4⟩ := g3.wd.own _ hm
    have k4 : o3 = .dK kvs := k4
    subst k4
    cases ds_int r2
    have r3' : Dp X.K G3 v3 d := by
      cases r3 with
      | py z => exact z
    obtain ⟨d', z1, z2⟩ := hz G3 v3 r3'
    exact ⟨_, DGet.k (k := Sum.inl i) k3, q _ _ _ _ _ ((g1.trans g2).trans g3) (.py z1) z2⟩)
end
/-! ### enumerate of a text -/
def Iteu (x : Str) : It := ⟨fun i _ => i < x.cps.size, fun i H v H' => ∃ T c, v = .ref T ∧ H T = none ∧ H' = upd H T (.tup [.int (i : Nat), .str ⟨#[c]⟩]) ∧ x.cps[i]? = some c, fun i _ => i = x.cps.size⟩
theorem turn_enumS {P : Program} {w : World} {K : PySem.W.Frag} {elts : List Expr} {kk : Nat} {tpos : Pos} (e it : Addr) (x : Str) (t : Tok) :
    Turn P w K (.Tuple elts kk tpos) (Iteu x) [e, it] e (fun i h => (∃ old, IsEnum h e it ((i : Nat) : Int) old) ∧ h.IsStrIter it "str_ascii_iterator" x t i ∧ e ≠ it) where
  mem := by simp
  obj := fun i h st b hb => by
    obtain ⟨⟨old, he⟩, ⟨o, ho, hc, hd⟩, _⟩ := st
    rcases (show b = e ∨ b = it by simpa using hb) with z | z
    · subst z; exact ⟨_, he, fun v q => nomatch q⟩
    · subst z; exact ⟨o, ho, fun v q => by rw [hd] at q; cases q⟩
  keep := fun i h h' st k => let ⟨⟨old, he⟩, ⟨o, ho, hr⟩, hne⟩ := st; ⟨⟨old, k e (by simp) _ he⟩, ⟨o, k it (by simp) o ho, hr⟩, hne⟩
  item := by
    intro X hP hw hK hc i pins s σ H E J hf st hlt
    subst hP hw hK
    obtain ⟨⟨old, he⟩, hit, hne⟩ := st
    have hel : e < s.heap.objs.size := Heap.lt_size he
    have hil : it < s.heap.objs.size := by obtain ⟨_, q, _⟩ := hit; exact Heap.lt_size q
    have D := Draws.strAscii (prog := X.prog) (w := X.w) (A := X.A.in1) (J.ok.hd hc) it x t
    refine wpAny_pyNext_enum_itemD D he hit hlt hne (by simpa using hne) fun v h' tk hv ho hit' hT hsz hk => ?_
    obtain ⟨c, u, hcx, rfl⟩ := hv
    refine ⟨_, rfl, wpAny_letOwnedTupleGo_enum (s := { s with heap := h', toks := tk + 1 }) ho fun h2 he' sb => ?_⟩
    have far : ∀ {b}, b ∉ [e, it] → b ≠ e ∧ b ≠ it := fun {b} hb => ⟨fun z => hb (by simp [z]), fun z => hb (by simp [z])⟩
    have new : ObjOk X.prog X.w (upd H s.heap.objs.size (.tup [.int (i : Nat), .str ⟨#[c]⟩])) h2 s.heap.objs.size (.tup [.int (i : Nat), .str ⟨#[c]⟩]) :=
      ⟨by show 2 ≤ sizeLine; decide, [.int i tk, .str ⟨#[c]⟩ u], .cons ⟨_, rfl⟩ (.cons ⟨_, rfl⟩ .nil), ⟨_, (sb.2 _ (Nat.ne_of_gt hel)).trans hT, rfl, _, rfl⟩⟩
    have J1 := J.turnedNew (ch := [e, it]) (t' := tk + 1) (fun b ob hb q => (sb.2 b (far hb).1).trans (hk b ob (far hb).1 (far hb).2 q)) hf (Nat.le_refl _) new
    have hit2 : h2.IsStrIter it "str_ascii_iterator" x t (i + 1) := by
      obtain ⟨o, h1, hr⟩ := hit'
      exact ⟨o, (sb.2 it (Ne.symm hne)).trans h1, hr⟩
    have e1 : ((i + 1 : Nat) : Int) = (i : Int) + 1 := by omega
    have he2 : IsEnum h2 e it ((i + 1 : Nat) : Int) (Value.str ⟨#[c]⟩ u) := by rw [e1]; exact he'
    refine ⟨.ref s.heap.objs.size, _, J1, rfl, ⟨_, c, rfl, J.hok.fresh (Nat.le_refl _), rfl, hcx⟩, ⟨⟨_, he2⟩, hit2, hne⟩, fun b hb => ?_⟩
    have hb' : b < s.heap.objs.size := by
      rcases (show b = e ∨ b = it by simpa using hb) with z | z
      · rw [z]; exact hel
      · rw [z]; exact hil
    rw [upd_ne (Nat.ne_of_lt hb')]
    exact (hf b hb).1
  done := by
    intro X hP hw hK hc i pins s σ H E J hf st hstop
    subst hP hw hK
    obtain ⟨⟨old, he⟩, hit, hne⟩ := st
    obtain ⟨f0, f1, f2, f3, f4, f5⟩ := hf it (by simp)
    have D := Draws.strAscii (prog := X.prog) (w := X.w) (A := X.A.in1) (J.ok.hd hc) it x t
    have hn : i = x.cps.size := hstop
    subst hn
    exact wpAny_pyNext_enum_endD D he hit fun h' eb => ⟨rfl, J.turned (t' := s.toks) (fun b o hb q => eb b o hb q) f0 f1 f3 f4 f5⟩
  self := fun A i s Q E st h => let ⟨⟨_, he⟩, _⟩ := st; wpAny_pyIter_enum he h
def iEnumS (ta : TA) : TI := fun σ H R => ta σ H fun vs H1 => ∃ x : Str, vs = [.str x] ∧ x.cps.all (· < 128) = true ∧ R (Iteu x) H1
theorem pi_enumS {X : Cx} {e : Expr} {ta : TA} {p pos tpos : Pos} {elts : List Expr} {kk : Nat} (hg : Gl X "enumerate") (hm : X.mg "enumerate" = none) (ha : PA X [e] ta) (hs : starEach [e] X.env = [(false, eval e X.env)]) :
    PI X (.Tuple elts kk tpos) (.Call (.Name "enumerate" p) [e] [] pos) (iEnumS ta) := ⟨fun pins s σ H R J h => by
  refine Call_ (ld_blt J hg hm boot_enumerate (PyProof.Rows.callWith_type1 (thn (ha.run pos pins s σ H _ J h) fun us s1 ⟨vs, H1, J1, r1, x, ex, hx, q⟩ => ?_) hs rfl))
  subst ex
  obtain ⟨u, rfl, t, rfl⟩ := r1.one
  refine call_enumerate_str fun h' he hit hsz hk => wpAny_pyIter_enum he ?_
  have hty : strIterType x = "str_ascii_iterator" := by unfold strIterType; rw [if_pos hx]
  rw [hty] at hit
  refine ⟨s1.heap.objs.size + 1, [s1.heap.objs.size + 1, s1.heap.objs.size], _, _, H1, rfl, J1.kept (t' := s1.toks) hk, turn_enumS _ _ x t, ⟨⟨.none, he⟩, hit, Nat.succ_ne_self _⟩, fun b hb => ?_, q⟩
  have hle : s1.heap.objs.size ≤ b := by
    rcases (show b = s1.heap.objs.size + 1 ∨ b = s1.heap.objs.size by simpa using hb) with z | z
    · rw [z]; exact Nat.le_add_right _ _
    · rw [z]; exact Nat.le_refl _
  exact J1.fpOk hle (J1.hok.fresh hle)⟩
section
variable {X : Cx} {ds : DE} {e : Expr} {pos : Pos}
theorem ei_enumS {l : List Nat} {p tpos : Pos} {elts : List Expr} {kk : Nat} (h : EE X e ds (S l)) (ha : l.all (· < 128) = true) (hm : X.mg "enumerate" = none) (hg : Gl X "enumerate" := by rfl) (hs : starEach [e] X.env = [(false, eval e X.env)] := by rfl) :
    EI X (.Tuple elts kk tpos) (.Call (.Name "enumerate" p) [e] [] pos) ds (l.zipIdx.map fun (q : Nat × Nat) => Tp [.int (q.2 : Nat), .str ⟨[q.1].toArray⟩]) := fun m σ G H E w R' q => oI (pi_enumS hg hm (pa_cons (pE e) pa_nil (by rw [hs]; rfl)) hs) (h m σ G H E w _ fun v d m1 G1 H1 g1 r1 ⟨e1, e2⟩ => by
  subst e1 e2
  cases ds_str r1
  refine ⟨_, rfl, by simpa using ha, q (Iteu ⟨l.toArray⟩) _ _ _ _ g1 ⟨fun i H e hi => ?_, fun H e => ?_, fun i m' G' H' x H2 e w' hi y => ?_⟩ ⟨rfl, rfl⟩⟩
  · show i < l.toArray.size
    simpa using hi
  · show (l.zipIdx.map fun (q : Nat × Nat) => Tp [.int (q.2 : Nat), .str ⟨[q.1].toArray⟩]).length = l.toArray.size
    simp
  · obtain ⟨T, c, rfl, nT, rfl, hc⟩ := y
    have hc : l[i]? = some c := by simpa using hc
    have g3 := Gr.new (o := .tup [.int (i : Nat), .str ⟨#[c]⟩]) w' nT
    refine ⟨_, Tp [.int (i : Nat), .str ⟨[c].toArray⟩], g3, ?_, .py (.tup (SqT.of upd_same) (.cons (.int _) (.cons (.str _) .nil)))⟩
    rw [List.getElem?_map, List.getElem?_zipIdx, hc]
    simp)
end
end W9
namespace W9
open PySem PySem.Spec PyProof.Rows L2
/-! ### the law's call from the top, for a def of this layer -/
section
variable {P : Program} {w : World} {K : PySem.W.Frag} {mg mb : Str → Option Value}
/-- what is tracked at the start: the script, where the module's own objects do not hold it -/
def scriptH (K : PySem.W.Frag) (a : Addr) (O : Obj) (ns : List Int) : Hp := fun b => if b = a ∧ K.lookup a = none then some (.frz O (.lst (ns.map V.int))) else none
theorem scriptH_some {a b : Addr} {O : Obj} {ns : List Int} {u : HO} (e : scriptH K a O ns b = some u) : b = a ∧ K.lookup a = none ∧ u = .frz O (.lst (ns.map V.int)) := by
  unfold scriptH at e
  split at e
  · next h => cases e; exact ⟨h.1, h.2, rfl⟩
  · cases e
theorem scriptH_ne {a b : Addr} {O : Obj} {ns : List Int} (h : b ≠ a) : scriptH K a O ns b = none := if_neg fun z => h z.1
theorem scriptH_K {a : Addr} {O : Obj} {ns : List Int} {o : Obj} (h : K.lookup a = some o) (b : Addr) : scriptH K a O ns b = none := if_neg fun z => by rw [h] at z; cases z.2
theorem dpa_of_ints {G : Hp} : ∀ ns : List Int, DpAll K G (ns.map V.int) (ns.map PyData.int)
  | [] => .nil
  | n :: ns => .cons (.int n) (dpa_of_ints ns)
theorem top_call {k : Nat} {fa a : Addr} {fd : FuncData} {x : Str} {F : FT} {s : Shared} {vs : List Value} {ns : List Int}
    (kin : K.In s.heap) (nsm : s.heap.Ns mainGlobals mg) (nsb : s.heap.Ns builtinsNs mb) (boot : ∀ x : Str, x ≠ "__name__" → mb x = bootBuiltins x) (lim : s.heap.NoLimit) (ge : s.gens = #[])
    (obj : s.heap.get? a = some { cls := .type "list", data := .seq vs.toArray }) (hin : IntsAre vs ns) (small : ns.length ≤ sizeLine) (rm : Rm k callerA)
    (fn : ∀ base : Heap, K.In base → base.Ns mainGlobals mg → FnG P w K mg base CX0 k fa fd [x] (SpD K F)) (bd : ∀ (s : Shared) (u : Value), BindsTo s fd ⟨[u], []⟩ [(x, u)])
    (due : F [Ls (ns.map .int)] [] fun d _ => d = B true) :
    codeAny (model P w) callerA (.call (.ref fa) ⟨[.ref a], []⟩) (fun r s' => r = .ok (.ret (.bool true)) ∧ OldK s.heap s'.heap ∧ s'.os = s.os ∧ AllBare s'.gens) s := by
  let O : Obj := { cls := .type "list", data := .seq vs.toArray }
  let H : Hp := scriptH K a O ns
  have vals : Vals (ns.map V.int) vs := vals_ints hin
  have unt : ∀ {b : Addr} {o : Obj}, s.heap.get? b = some o → (∀ t n, o.data ≠ .seq t n) → H b = none := fun {b o} e hd => by
    by_cases z : b = a
    · subst z
      rw [obj] at e
      cases e
      exact absurd rfl (hd vs.toArray _)
    · exact scriptH_ne z
  have lift : ∀ {b : Addr} {m : Str → Option Value}, s.heap.Ns b m → (hidT s.heap H).Ns b m := fun {b m} ⟨o, es, ep, e, d, r⟩ =>
    ⟨o, es, ep, hidT_get e (unt e fun t n z => by rw [d] at z; cases z), d, r⟩
  have kinH : K.In (hidT s.heap H) := fun b o e => hidT_get (kin b o e) (by
    by_cases z : b = a
    · subst z; exact scriptH_K e b
    · exact scriptH_ne z)
  have seq : SqL K H a (ns.map V.int) := by
    cases q : K.lookup a with
    | none => exact .inl (.inr ⟨O, if_pos ⟨rfl, q⟩⟩)
    | some o =>
      have e := kin a o q
      rw [obj] at e
      cases e
      exact .inr ⟨O, vs.toArray, _, q, rfl, rfl, rfl, by rw [List.size_toArray, hin.length]; exact small, by rw [List.toList_toArray]; exact vals⟩
  have hok : HOk P w H s.heap := fun b u e => by
    obtain ⟨rfl, _, rfl⟩ := scriptH_some e
    exact ⟨obj, by rw [List.length_map]; exact small, vs, _, vals, obj⟩
  have md : Mod K mg (hidT s.heap H) := ⟨kinH, lift nsm, ⟨mb, lift nsb, boot⟩, let ⟨mc, h1, h2⟩ := lim; ⟨mc, lift h1, h2⟩⟩
  have env : Env0 P w K mg (hidT s.heap H) callerA [] s H := ⟨rfl, md, fun b o e => of_hidT e, Nat.le_of_eq (hidT_size _ _), trivial, fun b hb => absurd (show b ∈ ([] : List Addr) from hb) (by simp), hok, .of_eq ge⟩
  have sp : SpD K F [.ref a] H (fun v _ => v = .bl true) fun _ _ _ => False :=
    ⟨H, [], [Ls (ns.map .int)], _, ⟨Ex.refl H, fun _ h => (nomatch h), List.nodup_nil⟩, .cons (.py (.lst seq (dpa_of_ints ns))) .nil, due, fun v d m' G' H' g r e => by subst e; exact ds_bl r⟩
  refine codeAny_mono ((fn _ kinH (lift nsm)).go callerA [] s H ⟨[.ref a], []⟩ [.ref a] [.ref a] _ _ rm env (bd s (.ref a)) (.cons rfl .nil) sp) fun r s' h => ?_
  match r, h with
  | .error e, h => exact h.elim
  | .ok .next, h => exact h.elim
  | .ok .brk, h => exact h.elim
  | .ok .cont, h => exact h.elim
  | .ok (.ret u), ⟨v, H', os, bare, un, hok', r', q⟩ =>
    have q' : v = .bl true := q
    subst q'
    have eu : u = Value.bool true := r'
    subst eu
    refine ⟨rfl, OldK.of_keep fun b o e => ?_, os, bare⟩
    cases z : H b with
    | none => exact un.keep b o e z (fun y => nomatch y) (by simp)
    | some t =>
      obtain ⟨rfl, _, rfl⟩ := scriptH_some z
      have e1 := (hok _ _ z).1
      have e2 := (hok' _ _ (un.frzs _ _ _ z)).1
      rw [e] at e1
      rw [e2, e1]
end
theorem walk_top {l : PySem.W.OpenLaw} {n k : Nat} {q : Program} {loose : List Str} {XP : (Str → Option Value) → Heap → Prop} {YP : World → Heap → Prop} {d : DefRec} {K : Params → PySem.W.Frag} {F : World → FT} {x : Str}
    (hn : l.most = some n) (hn2 : n ≤ sizeLine) (hdf : d.params.defaults = []) (hr : Room k callerA)
    (hY : ∀ (w : World) (h : Heap), YP w h → (K w.params).In h)
    (fn : ∀ (w : World) (mg : Str → Option Value) (fa : Addr) (h : Heap), (K w.params).In h → h.Ns mainGlobals mg → mg d.name = some (.ref fa) →
      ∃ fd : FuncData, (∀ (s : Shared) (u : Value), BindsTo s fd ⟨[u], []⟩ [(x, u)]) ∧
        ∀ base : Heap, (K w.params).In base → base.Ns mainGlobals mg → FnG l.prog w (K w.params) mg base CX0 k fa fd [x] (SpD (K w.params) (F w)))
    (due : ∀ (w : World) (ns : List Int), ns.length ≤ n → (∀ z ∈ ns, Builtin.Int.intBits z ≤ 1048576) → F w [Ls (ns.map .int)] [] fun d _ => d = B true) :
    PySem.W.WalkO q loose XP YP l.row.toRowW d [] (fun f vs => PySem.call f vs) := by
  refine Att.attach_callB hn hdf fun w s₀ s mg mb fa o pm cd doc a vs ns G Y ho hd hcd hmg obj hin hlen bits ge => ?_
  obtain ⟨fd, hb, hF⟩ := fn w mg fa _ (hY w _ Y) G.T.g hmg
  exact top_call (hY w _ Y) G.T.g G.T.b G.T.builtins G.T.nolimit ge obj hin (Nat.le_trans hlen hn2) ⟨hr, rfl⟩ hF hb (due w ns hlen bits)

/-! ### names of the module -/
section
variable {X : Cx} {ds : DE} {m : MS} {e a b c tg elt iter : Expr} {es : List Expr} {pos : Pos}
theorem ee_gint {x : Str} {i : Int} (h : ∃ t, X.mg x = some (.int i t)) (hg : Gl X x := by rfl) (hd : (x == ("__debug__" : Str)) = false := by decide) : EE X (.Name x pos) ds (I i) := let ⟨t, h⟩ := h; ee_glob (v := .int i) h ⟨t, rfl⟩ (fun _ => .py (.int i)) hg hd
theorem ee_gstr {x : Str} {l : List Nat} (h : ∃ t, X.mg x = some (.str ⟨l.toArray⟩ t)) (hg : Gl X x := by rfl) (hd : (x == ("__debug__" : Str)) = false := by decide) : EE X (.Name x pos) ds (S l) := let ⟨t, h⟩ := h; ee_glob (v := .str ⟨l.toArray⟩) h ⟨t, rfl⟩ (fun _ => .py (.str _)) hg hd
theorem ee_gdat {x : Str} {d : PyData} (h : ∃ f, X.mg x = some (.ref f) ∧ ∀ G, DS X.K G (.ref f) (.py d)) (hg : Gl X x := by rfl) (hd : (x == ("__debug__" : Str)) = false := by decide) : EE X (.Name x pos) ds (.py d) := let ⟨f, h, k⟩ := h; ee_glob (v := .ref f) h rfl k hg hd

/-! ### comprehensions that are functions of data -/
/-- [elt for x in l] by a name, no filter -/
theorem ee_lcm {α : Type} {j : Nat} {x : Str} {tpos : Pos} {scope : Scope} (l : List α) (g : α → SD) (h : α → PyData) (own : List (Str × Nat)) (ho : own.map (·.2) = [j]) (hN : X.N.Nodup) (hi : EI X (.Name x tpos) iter ds (l.map g)) (hl : l.length ≤ 1000000)
    (turn : ∀ a ∈ l, AllBlk X scope fun Y => EE Y elt ((ds.set j none).set j (some (g a))) (.py (h a)))
    (wg : ∀ s H C cl fp d (ds : DE) m (Q : DE → MS → Prop), Q (ds.set j (some d)) m → WG (Blk X scope s H C cl fp) (.Name x tpos) [j] d ds m Q)
    (ok : BlkOk X.N X.env.scope scope own) (hc : X.calm = true := by rfl) (hs : ∀ x, foldedSetIterable iter X.env x = pure x := by intro _; rfl) : EE X (.ListComp elt [⟨.Name x tpos, iter, [], 0⟩] scope pos) ds (Ls (l.map h)) := fun m =>
  we_lc own hN (hi.to ⟨by rw [List.length_map]; exact hl, fun i acc m' => acc = (l.take i).map h ∧ m' = m, ⟨rfl, rfl⟩, fun i y acc m' hy _ ⟨e1, e2⟩ => by
    subst e1 e2
    rw [ho]
    rw [List.getElem?_map] at hy
    cases q : l[i]? with
    | none => rw [q] at hy; cases hy
    | some a =>
      rw [q] at hy
      have hy : g a = y := Option.some.inj hy
      subst hy
      refine fun s H C cl fp => wg _ _ _ _ _ _ _ _ _ fun s H C cl fp => wts_nil ?_
      rw [if_pos rfl]
      refine fun s H C cl fp => (turn a (List.mem_of_getElem? q) s H C cl fp).to ⟨_, rfl, ?_, rfl⟩
      rw [List.take_add_one, q, List.map_append]
      rfl, fun acc m' _ ⟨e1, e2⟩ => by
    rw [List.length_map, List.take_length] at e1
    exact ⟨by rw [e1], e2⟩⟩) ok hc hs
/-- [elt for x in l if t] -/
theorem ee_lcf {α : Type} {j : Nat} {x : Str} {tpos : Pos} {scope : Scope} (l : List α) (g : α → SD) (p : α → Bool) (h : α → PyData) (own : List (Str × Nat)) (ho : own.map (·.2) = [j]) (hN : X.N.Nodup) (hi : EI X (.Name x tpos) iter ds (l.map g)) (hl : l.length ≤ 1000000)
    (test : ∀ a ∈ l, AllBlk X scope fun Y => ET Y c ((ds.set j none).set j (some (g a))) (p a))
    (turn : ∀ a ∈ l, p a = true → AllBlk X scope fun Y => EE Y elt ((ds.set j none).set j (some (g a))) (.py (h a)))
    (wg : ∀ s H C cl fp d (ds : DE) m (Q : DE → MS → Prop), Q (ds.set j (some d)) m → WG (Blk X scope s H C cl fp) (.Name x tpos) [j] d ds m Q)
    (ok : BlkOk X.N X.env.scope scope own) (hc : X.calm = true := by rfl) (hs : ∀ x, foldedSetIterable iter X.env x = pure x := by intro _; rfl) : EE X (.ListComp elt [⟨.Name x tpos, iter, [c], 0⟩] scope pos) ds (Ls ((l.filter p).map h)) := fun m =>
  we_lc own hN (hi.to ⟨by rw [List.length_map]; exact hl, fun i acc m' => acc = ((l.take i).filter p).map h ∧ m' = m, ⟨rfl, rfl⟩, fun i y acc m' hy _ ⟨e1, e2⟩ => by
    subst e1 e2
    rw [ho]
    rw [List.getElem?_map] at hy
    cases q : l[i]? with
    | none => rw [q] at hy; cases hy
    | some a =>
      rw [q] at hy
      have hy : g a = y := Option.some.inj hy
      subst hy
      have hm := List.mem_of_getElem? q
      refine fun s H C cl fp => wg _ _ _ _ _ _ _ _ _ fun s H C cl fp => wts_one ((test a hm s H C cl fp).to ?_)
      cases z : p a with
      | true =>
        rw [if_pos rfl]
        refine fun s H C cl fp => (turn a hm z s H C cl fp).to ⟨_, rfl, ?_, rfl⟩
        rw [List.take_add_one, q, List.filter_append, List.map_append]
        show _ = _ ++ ([a].filter p).map h
        rw [List.filter_cons_of_pos z]
        rfl
      | false =>
        rw [if_neg Bool.false_ne_true]
        refine ⟨?_, rfl⟩
        rw [List.take_add_one, q, List.filter_append, List.map_append]
        show _ = _ ++ ([a].filter p).map h
        rw [List.filter_cons_of_neg (by rw [z]; exact Bool.false_ne_true)]
        simp, fun acc m' _ ⟨e1, e2⟩ => by
    rw [List.length_map, List.take_length] at e1
    exact ⟨by rw [e1], e2⟩⟩) ok hc hs
end
/-! ### pieces of lists of data -/
theorem cut_map {α β : Type} (f : α → β) (l : List α) (lo hi : Option Int) : cut (l.map f) lo hi = (cut l lo hi).map f := by
  unfold cut
  rw [List.length_map, List.map_take, List.map_drop]
/-! ### dict(pairs): owned -/
section
variable {X : Cx} {ds : DE} {m : MS} {e : Expr} {pos p : Pos}
theorem dpa_pairs {K : PySem.W.Frag} {G : Hp} : ∀ {l : List (Int × PyData)} {vs : List V}, DpAll K G vs (l.map fun q => PyData.tuple [.int q.1, q.2]) → ∃ (ps : List Addr) (kvs : List (Key × V)), vs = ps.map V.ref ∧ Paired (fun p (kv : Key × V) => SqT K G p [kV kv.1, kv.2]) ps kvs ∧ kvs.map (·.1) = l.map (fun q => (Sum.inl q.1 : Key)) ∧ DpAll K G (kvs.map (·.2)) (l.map (·.2))
  | [], _, h => by
    cases h
    exact ⟨[], [], rfl, .nil, rfl, .nil⟩
  | q :: l, _, h => by
    cases h with
    | cons h1 h2 =>
      obtain ⟨ps, kvs, e1, e2, e3, e4⟩ := dpa_pairs h2
      cases h1 with
      | tup t1 t2 =>
        cases t2 with
        | cons u1 u2 =>
          cases u1
          cases u2 with
          | cons u2 u3 =>
            cases u3
            exact ⟨_ :: ps, (Sum.inl q.1, _) :: kvs, by rw [e1]; rfl, .cons t1 e2, by rw [List.map_cons, List.map_cons, e3], .cons u2 e4⟩
end
end W9
namespace W9
open PySem PySem.Spec PyProof.Rows L2
/-! ### cells: texts of digits below sixteen -/
def dig (w : Nat) : Nat := if w < 10 then 48 + w else 87 + w
abbrev C (ws : List Nat) : SD := S (ws.map dig)
def Ok (ws : List Nat) : Prop := ∀ w ∈ ws, w < 16
abbrev hexS : List Nat := [48, 49, 50, 51, 52, 53, 54, 55, 56, 57, 97, 98, 99, 100, 101, 102]
theorem hex_get {w : Nat} (h : w < 16) : hexS[w]? = some (dig w) := by
  have : ∀ w < 16, hexS[w]? = some (dig w) := by decide
  exact this w h
theorem hex_mem {w : Nat} (h : w < 16) : dig w ∈ hexS := List.mem_of_getElem? (hex_get h)
theorem dig_inj {a b : Nat} (ha : a < 16) (hb : b < 16) (h : dig a = dig b) : a = b := by
  unfold dig at h
  split at h <;> split at h <;> omega
theorem dig_lt {a b : Nat} (ha : a < 16) (hb : b < 16) : dig a < dig b ↔ a < b := by
  unfold dig
  split <;> split <;> omega
theorem map_dig_inj {a b : List Nat} (ha : Ok a) (hb : Ok b) (h : a.map dig = b.map dig) : a = b := by
  induction a generalizing b with
  | nil => cases b with
    | nil => rfl
    | cons y b => simp at h
  | cons x a ih => cases b with
    | nil => simp at h
    | cons y b =>
      rw [List.map_cons, List.map_cons] at h
      injection h with h1 h2
      rw [dig_inj (ha x List.mem_cons_self) (hb y List.mem_cons_self) h1, ih (fun w hw => ha w (List.mem_cons_of_mem _ hw)) (fun w hw => hb w (List.mem_cons_of_mem _ hw)) h2]
theorem Ok.app {a b : List Nat} (ha : Ok a) (hb : Ok b) : Ok (a ++ b) := fun w hw => (List.mem_append.mp hw).elim (ha w) (hb w)
theorem Ok.tk {a : List Nat} (n : Nat) (ha : Ok a) : Ok (a.take n) := fun w hw => ha w (List.mem_of_mem_take hw)
theorem Ok.dp {a : List Nat} (n : Nat) (ha : Ok a) : Ok (a.drop n) := fun w hw => ha w (List.mem_of_mem_drop hw)
theorem Ok.nil : Ok [] := fun w hw => nomatch hw
theorem Ok.one {w : Nat} (h : w < 16) : Ok [w] := fun x hx => by
  rw [List.mem_singleton] at hx; omega
theorem Ok.rep {w n : Nat} (h : w < 16) : Ok (List.replicate n w) := fun x hx => by
  have := List.eq_of_mem_replicate hx; omega
theorem Ok.get {a : List Nat} {i w : Nat} (h : Ok a) (e : a[i]? = some w) : w < 16 := h w (List.mem_of_getElem? e)
theorem Ok.tail {x : Nat} {a : List Nat} (h : Ok (x :: a)) : Ok a := fun w hw => h w (List.mem_cons_of_mem _ hw)
theorem Ok.head {x : Nat} {a : List Nat} (h : Ok (x :: a)) : x < 16 := h x List.mem_cons_self
/-! ### numbers of cells -/
def num (ws : List Nat) : Nat := ws.foldl (fun a w => a * 16 + w) 0
/-- the last k cells of a number -/
def digs : Nat → Nat → List Nat
  | 0, _ => []
  | k + 1, n => (n / 16 ^ k % 16) :: digs k n
theorem digs_length (k n : Nat) : (digs k n).length = k := by
  induction k with
  | zero => rfl
  | succ k ih => show (digs k n).length + 1 = _; rw [ih]
theorem digs_ok (k n : Nat) : Ok (digs k n) := by
  induction k with
  | zero => exact Ok.nil
  | succ k ih =>
    intro w hw
    rcases List.mem_cons.mp hw with h | h
    · rw [h]; exact Nat.mod_lt _ (by decide)
    · exact ih w h
theorem num_app (ws : List Nat) (w : Nat) : num (ws ++ [w]) = num ws * 16 + w := by unfold num; rw [List.foldl_append]; rfl
theorem fold_num : ∀ (ws : List Nat) (a : Nat), ws.foldl (fun a w => a * 16 + w) a = a * 16 ^ ws.length + num ws
  | [], a => by show a = a * 1 + 0; omega
  | w :: ws, a => by
    unfold num
    rw [List.foldl_cons, List.foldl_cons, fold_num ws, fold_num ws (0 * 16 + w), List.length_cons, Nat.pow_succ]
    simp only [Nat.add_mul, Nat.zero_mul, Nat.zero_add, Nat.mul_assoc, Nat.mul_comm (16 ^ ws.length) 16, Nat.add_assoc]
theorem num_cons (w : Nat) (ws : List Nat) : num (w :: ws) = w * 16 ^ ws.length + num ws := by
  show ws.foldl _ (0 * 16 + w) = _
  rw [fold_num, Nat.zero_mul, Nat.zero_add]
theorem num_lt {ws : List Nat} (h : Ok ws) : num ws < 16 ^ ws.length := by
  induction ws with
  | nil => decide
  | cons w ws ih =>
    rw [num_cons, List.length_cons, Nat.pow_succ]
    have h1 := ih h.tail
    have h2 := h.head
    have h3 : w * 16 ^ ws.length ≤ 15 * 16 ^ ws.length := Nat.mul_le_mul_right _ (by omega)
    omega
theorem num_digs (k n : Nat) : num (digs k n) = n % 16 ^ k := by
  induction k with
  | zero => show 0 = _; omega
  | succ k ih =>
    show num ((n / 16 ^ k % 16) :: digs k n) = _
    rw [num_cons, digs_length, ih, Nat.pow_succ, Nat.mod_mul, Nat.mul_comm]
    omega
theorem digs_mod (k n : Nat) : ∀ j, k ≤ j → digs k (n % 16 ^ j) = digs k n := by
  induction k with
  | zero => intro j _; rfl
  | succ k ih =>
    intro j hj
    show (n % 16 ^ j / 16 ^ k % 16) :: digs k (n % 16 ^ j) = (n / 16 ^ k % 16) :: digs k n
    rw [ih j (by omega)]
    congr 1
    obtain ⟨i, rfl⟩ : ∃ i, j = k + 1 + i := ⟨j - (k + 1), by omega⟩
    rw [Nat.pow_add, Nat.pow_succ, Nat.mul_assoc, Nat.mod_mul_right_div_self, Nat.mod_mul_right_mod]
theorem digs_num {ws : List Nat} (h : Ok ws) : digs ws.length (num ws) = ws := by
  induction ws with
  | nil => rfl
  | cons w ws ih =>
    have h1 := num_lt h.tail
    have h2 := h.head
    show (num (w :: ws) / 16 ^ ws.length % 16) :: digs ws.length (num (w :: ws)) = w :: ws
    have e1 : num (w :: ws) / 16 ^ ws.length % 16 = w := by
      rw [num_cons, Nat.mul_comm, Nat.mul_add_div (Nat.pow_pos (by decide)), Nat.div_eq_of_lt h1]
      omega
    have e2 : digs ws.length (num (w :: ws)) = ws := by
      rw [← digs_mod ws.length (num (w :: ws)) ws.length (Nat.le_refl _), num_cons, Nat.mul_comm, Nat.mul_add_mod, Nat.mod_eq_of_lt h1, ih h.tail]
    rw [e1, e2]
/-- the next cell of a number, from behind -/
theorem digs_step (k n : Nat) : digs (k + 1) n = (n / 16 ^ k % 16) :: digs k n := rfl
theorem div_step (k n : Nat) : n / 16 ^ k / 16 = n / 16 ^ (k + 1) := by rw [Nat.div_div_eq_div_mul, Nat.pow_succ]
/-! ### sums -/
def sumW (f : Nat → Nat) : Nat → List Nat → Nat
  | _, [] => 0
  | i, w :: ws => (15 - w) * f i + sumW f (i + 1) ws
theorem sumW_app (f : Nat → Nat) : ∀ (i : Nat) (a b : List Nat), sumW f i (a ++ b) = sumW f i a + sumW f (i + a.length) b
  | i, [], b => by show _ = 0 + sumW f (i + 0) b; rw [Nat.zero_add]; rfl
  | i, w :: a, b => by
    show (15 - w) * f i + sumW f (i + 1) (a ++ b) = (15 - w) * f i + sumW f (i + 1) a + sumW f (i + (a.length + 1)) b
    rw [sumW_app f (i + 1) a b, Nat.add_assoc (_ * _), Nat.add_assoc i 1, Nat.add_comm 1 a.length]
abbrev f0 : Nat → Nat := fun _ => 1
abbrev f1 : Nat → Nat := fun i => i + 1
abbrev f2 : Nat → Nat := fun i => (i + 1) * (i + 1)
theorem sumW_take {f : Nat → Nat} {ws : List Nat} {i w : Nat} (h : ws[i]? = some w) : sumW f 0 (ws.take (i + 1)) = sumW f 0 (ws.take i) + (15 - w) * f i := by
  rw [List.take_add_one, h, sumW_app, List.length_take]
  have hl := (List.getElem?_eq_some_iff.mp h).1
  rw [Nat.min_eq_left (by omega), Nat.zero_add]
  rfl
theorem sumW_le {f : Nat → Nat} {b : Nat} : ∀ (i : Nat) (ws : List Nat), (∀ j, j < i + ws.length → f j ≤ b) → sumW f i ws ≤ ws.length * (15 * b)
  | _, [], _ => by show 0 ≤ _; omega
  | i, w :: ws, h => by
    show (15 - w) * f i + sumW f (i + 1) ws ≤ (ws.length + 1) * (15 * b)
    have h1 := sumW_le (i + 1) ws fun j hj => h j (by rw [List.length_cons]; omega)
    have h2 : (15 - w) * f i ≤ 15 * b := Nat.mul_le_mul (by omega) (h i (by rw [List.length_cons]; omega))
    rw [Nat.add_mul]
    omega
/-! ### steps on cells -/
section
variable {X : Cx} {m : MS} {ds : DE} {e : Expr} {pos : Pos}
theorem C_len (ws : List Nat) : (ws.map dig).length = ws.length := List.length_map ..
theorem bd_addC {a b : List Nat} (h : a.length + b.length ≤ 1000000) : BinD X .Add (C a) (C b) (C (a ++ b)) := by
  have z : BinD X .Add (C a) (C b) (S (a.map dig ++ b.map dig)) := bd_addS (by rw [C_len, C_len]; exact h)
  rw [← List.map_append] at z
  exact z
theorem rep_map (n : Nat) (l : List Nat) : rep n (l.map dig) = (rep n l).map dig := by
  unfold rep
  rw [List.map_flatten, List.map_replicate]
theorem bd_mulC {l : List Nat} {n : Int} (h : n ≤ 1000000 ∧ -1000000 ≤ n ∧ l.length * n.toNat ≤ 1000000) : BinD X .Mult (C l) (I n) (C (rep n.toNat l)) := by
  have z : BinD X .Mult (C l) (I n) (S (rep n.toNat (l.map dig))) := bd_mulS (by rw [C_len]; exact h)
  rw [rep_map] at z
  exact z
theorem rep_one (n w : Nat) : rep n [w] = List.replicate n w := by
  unfold rep
  induction n with
  | zero => rfl
  | succ n ih => rw [List.replicate_succ, List.flatten_cons, ih]; rfl
theorem sl_C {l : List Nat} {lo hi : Option Int} (hz : l.length ≤ 1000000) : SlD X m (C l) lo hi (C (cut l lo hi)) := by
  have z : SlD X m (C l) lo hi (S (cut (l.map dig) lo hi)) := sl_S (by rw [C_len]; exact hz)
  rw [cut_map] at z
  exact z
theorem sl_Cnn {l : List Nat} {a b : Nat} (hz : l.length ≤ 1000000) : SlD X m (C l) (some (a : Int)) (some (b : Int)) (C ((l.drop a).take (b - a))) := by rw [← cut_nn]; exact sl_C hz
theorem sl_Cn0 {l : List Nat} {a : Nat} (hz : l.length ≤ 1000000) : SlD X m (C l) (some (a : Int)) none (C (l.drop a)) := by rw [← cut_n0]; exact sl_C hz
theorem sl_C0n {l : List Nat} {b : Nat} (hz : l.length ≤ 1000000) : SlD X m (C l) none (some (b : Int)) (C (l.take b)) := by rw [← cut_0n]; exact sl_C hz
theorem sd_C {l : List Nat} {i : Nat} {w : Nat} (h : l[i]? = some w) (hz : l.length ≤ 1000000) : SubD X m (C l) (I (i : Int)) (C [w]) := sd_str (at_nn (by omega) (by rw [Int.toNat_natCast, List.getElem?_map, h]; rfl)) (by rw [C_len]; exact hz)
theorem sd_Ci {l : List Nat} {i : Int} {w : Nat} (h0 : 0 ≤ i) (h : l[i.toNat]? = some w) (hz : l.length ≤ 1000000) : SubD X m (C l) (I i) (C [w]) := sd_str (at_nn h0 (by rw [List.getElem?_map, h]; rfl)) (by rw [C_len]; exact hz)
/-- the table's i-th sign -/
theorem sd_hex {i : Int} {w : Nat} (h : i = (w : Int)) (hw : w < 16) : SubD X m (S hexS) (I i) (C [w]) := by
  subst h
  exact sd_str (at_nn (by omega) (by rw [Int.toNat_natCast, hex_get hw])) (by decide)
theorem ei_cells {tg : Expr} {ws : List Nat} (h : EE X e ds (C ws)) : EI X tg e ds (ws.map fun w => C [w]) := by
  have z := ei_str (tg := tg) h
  rw [List.map_map] at z
  exact z
theorem zipIdx_map' {α β : Type} (f : α → β) : ∀ (l : List α) (k : Nat), (l.map f).zipIdx k = (l.zipIdx k).map fun q => (f q.1, q.2)
  | [], _ => rfl
  | a :: l, k => by
    show (f a, k) :: (l.map f).zipIdx (k + 1) = (f a, k) :: (l.zipIdx (k + 1)).map _
    rw [zipIdx_map' f l (k + 1)]
theorem asc_C {ws : List Nat} (h : Ok ws) : (ws.map dig).all (· < 128) = true := by
  rw [List.all_eq_true]
  intro c hc
  obtain ⟨w, hw, rfl⟩ := List.mem_map.mp hc
  have := h w hw
  unfold dig
  rw [decide_eq_true_eq]
  split <;> omega
theorem ei_enumC {p tpos : Pos} {elts : List Expr} {kk : Nat} {ws : List Nat} (h : EE X e ds (C ws)) (ho : Ok ws) (hm : X.mg "enumerate" = none) (hg : Gl X "enumerate" := by rfl) (hs : starEach [e] X.env = [(false, eval e X.env)] := by rfl) :
    EI X (.Tuple elts kk tpos) (.Call (.Name "enumerate" p) [e] [] pos) ds (ws.zipIdx.map fun q => Tp [.int (q.2 : Nat), .str ⟨([q.1].map dig).toArray⟩]) := by
  have z := ei_enumS (elts := elts) (kk := kk) (tpos := tpos) (p := p) (pos := pos) h (asc_C ho) hm hg hs
  rw [zipIdx_map', List.map_map] at z
  exact z
theorem cd_eqC {a b : List Nat} (ha : Ok a) (hb : Ok b) : CmpD X .Eq (C a) (C b) (decide (a = b)) := by
  have z : CmpD X .Eq (C a) (C b) (decide (a.map dig = b.map dig)) := cd_eqS
  rw [decide_eq_decide.mpr ⟨map_dig_inj ha hb, fun h => by rw [h]⟩] at z
  exact z
theorem cd_neC {a b : List Nat} (ha : Ok a) (hb : Ok b) : CmpD X .NotEq (C a) (C b) (!decide (a = b)) := by
  have z : CmpD X .NotEq (C a) (C b) (!decide (a.map dig = b.map dig)) := cd_neS
  rw [decide_eq_decide.mpr ⟨map_dig_inj ha hb, fun h => by rw [h]⟩] at z
  exact z
theorem hex_occ : ∀ w < 16, Builtin.Str.occurrences ⟨hexS.toArray⟩ ⟨#[dig w]⟩ 0 (⟨hexS.toArray⟩ : Str).length 1 = [w] := by decide +kernel
theorem md_hex {w : Nat} (h : w < 16) : MtD X "str" "str.index" m (S hexS) [C [w]] (I w) := md_index (hex_occ w h)
theorem ca_lenC {ws : List Nat} (hz : ws.length ≤ 1000000) : CaD X (.builtin "len") m [C ws] (I ws.length) := by
  have z : CaD X (.builtin "len") m [C ws] (I (ws.map dig).length) := ca_lenS (by rw [C_len]; exact hz)
  rw [C_len] at z
  exact z
theorem flat_one (ls : List (List Nat)) : joinL [] ls = ls.flatten := joinL_nil ls
theorem md_joinC {ls : List (List Nat)} (hz : (ls.map List.length).sum ≤ 1000000) : MtD X "str" "str.join" m (S []) [Ls (txts (ls.map fun l => l.map dig))] (C ls.flatten) := by
  have z : MtD X "str" "str.join" m (S []) [Ls (txts (ls.map fun l => l.map dig))] (S (joinL [] (ls.map fun l => l.map dig))) := md_join (by
    rw [List.map_map]
    have e : (ls.map (List.length ∘ fun l => l.map dig)) = ls.map List.length := List.map_congr_left fun l _ => List.length_map ..
    rw [e]
    simpa using hz)
  rw [joinL_nil] at z
  have e : (ls.map fun l => l.map dig).flatten = ls.flatten.map dig := by rw [List.map_flatten]
  rw [e] at z
  exact z
end
end W9
namespace W9
open PySem PySem.Spec PyProof.Rows L2
theorem map_get {α β : Type} {l : List α} {f : α → β} {i : Nat} {x : β} (h : (l.map f)[i]? = some x) : ∃ a, l[i]? = some a ∧ x = f a := by
  rw [List.getElem?_map] at h
  cases q : l[i]? with
  | none => rw [q] at h; cases h
  | some a => rw [q] at h; exact ⟨a, rfl, (Option.some.inj h).symm⟩
theorem map_zip_get {α β : Type} {l : List α} {f : α × Nat → β} {i : Nat} {x : β} (h : (l.zipIdx.map f)[i]? = some x) : ∃ a, l[i]? = some a ∧ x = f (a, i) := by
  obtain ⟨a, h1, h2⟩ := map_get h
  rw [List.getElem?_zipIdx] at h1
  cases q : l[i]? with
  | none => rw [q] at h1; cases h1
  | some b =>
    rw [q] at h1
    have e : (b, 0 + i) = a := Option.some.inj h1
    subst e
    exact ⟨b, rfl, by rw [h2, Nat.zero_add]⟩
theorem I_eq {a b : Int} (h : a = b) : I a = I b := by rw [h]
theorem C_eq {a b : List Nat} (h : a = b) : C a = C b := by rw [h]
theorem S_eq {a b : List Nat} (h : a = b) : S a = S b := by rw [h]
theorem B_eq {a b : Bool} (h : a = b) : B a = B b := by rw [h]
theorem get_lt {α : Type} {l : List α} {i : Nat} {a : α} (h : l[i]? = some a) : i < l.length := (List.getElem?_eq_some_iff.mp h).1
theorem flat_sing {α β : Type} (f : α → β) : ∀ l : List α, (l.map fun a => [f a]).flatten = l.map f
  | [] => rfl
  | a :: l => by rw [List.map_cons, List.flatten_cons, flat_sing f l]; rfl
section
variable {X : Cx} {m : MS} {ds : DE} {e : Expr} {pos : Pos}
theorem sd_hexM {a : Nat} : SubD X m (S hexS) (I ((a : Int) % 16)) (C [a % 16]) := sd_hex (by omega) (Nat.mod_lt _ (by decide))
theorem sd_hexT {w : Nat} (h : w < 16) : SubD X m (S hexS) (I (15 - (w : Int))) (C [15 - w]) := sd_hex (by omega) (by omega)
theorem md_joinCf {α : Type} {l : List α} {f : α → List Nat} {k : Nat} (hk : ∀ a ∈ l, (f a).length ≤ k) (hz : l.length * k ≤ 1000000) : MtD X "str" "str.join" m (S []) [Ls (l.map fun a => PyData.str ⟨((f a).map dig).toArray⟩)] (C (l.map f).flatten) := by
  have z : MtD X "str" "str.join" m (S []) [Ls (txts ((l.map f).map fun l => l.map dig))] (C (l.map f).flatten) := md_joinC (by
    refine Nat.le_trans ?_ hz
    clear hz
    induction l with
    | nil => exact Nat.zero_le _
    | cons a l ih =>
      rw [List.map_cons, List.map_cons, List.sum_cons, List.length_cons, Nat.succ_mul]
      have h1 := ih fun b hb => hk b (List.mem_cons_of_mem _ hb)
      have h2 := hk a List.mem_cons_self
      omega)
  rw [List.map_map] at z
  unfold txts at z
  rw [List.map_map] at z
  exact z
theorem md_joinC1 {α : Type} {l : List α} {f : α → Nat} (hz : l.length ≤ 1000000) : MtD X "str" "str.join" m (S []) [Ls (l.map fun a => PyData.str ⟨([f a].map dig).toArray⟩)] (C (l.map f)) := by
  have z := md_joinCf (X := X) (m := m) (l := l) (f := fun a => [f a]) (k := 1) (fun _ _ => Nat.le_refl _) (by omega)
  rw [flat_sing] at z
  exact z
theorem ca_allm (hc : X.calm = true) {α : Type} {l : List α} {p : α → Bool} : CaD X (.builtin "all") m [Ls (l.map fun a => PyData.bool (p a))] (B (l.all p)) := by
  have z : CaD X (.builtin "all") m [Ls ((l.map p).map .bool)] (B ((l.map p).all id)) := ca_all hc
  rw [List.map_map, List.all_map] at z
  exact z
theorem cd_inHex {w : Nat} (h : w < 16) : CmpD X .In (C [w]) (S hexS) true := by
  have z : CmpD X .In (S [dig w]) (S hexS) (decide (dig w ∈ hexS)) := cd_inS
  rw [decide_eq_true (hex_mem h)] at z
  exact z
end
section
variable {X : Cx} {m : MS} {ds : DE} {e c : Expr} {pos : Pos}
theorem ws_retE {E : ED} {d : SD} (h : EE X e ds d) (p : E.rt d m) : WS X (.Return (some e) pos) ds m E := ws_ret (h.to p)
theorem ws_setE {i : Nat} {x : Str} {pos' : Pos} {E : ED} {d : SD} (hN : X.N.Nodup) (h : EE X e ds d) (p : E.nx (ds.set i (some d)) m) (hi : X.N[i]? = some x := by rfl) (hx : Loc X.env.scope x := by first | exact Or.inl rfl | exact Or.inr rfl)
    (hs : swapsWith e (some (.Name x pos')) pos.line X.env = pure false := by rfl) (hf : X.fn x = true ∨ X.env.scope.names.lookup x = some .local := by first | exact .inl rfl | exact .inr rfl | assumption) : WS X (.Assign [.Name x pos'] e pos) ds m E :=
  ws_set hN (h.to p) hi hx hs hf
end
/-! ### page tails -/
abbrev cmpl (ws : List Nat) : List Nat := ws.map (15 - ·)
theorem cmpl_ok {ws : List Nat} : Ok (cmpl ws) := fun w hw => by
  obtain ⟨a, _, rfl⟩ := List.mem_map.mp hw
  omega
def tw (k n : Nat) : List Nat := digs k n ++ cmpl (digs k n)
theorem tw_length (k n : Nat) : (tw k n).length = 2 * k := by
  unfold tw
  rw [List.length_append, List.length_map, digs_length]
  omega
theorem tw_ok (k n : Nat) : Ok (tw k n) := (digs_ok k n).app cmpl_ok
def tailOf (a b c : Nat) : List Nat := tw 3 a ++ (tw 5 b ++ tw 7 c)
theorem tailOf_length (a b c : Nat) : (tailOf a b c).length = 30 := by
  unfold tailOf
  rw [List.length_append, List.length_append, tw_length, tw_length, tw_length]
theorem tailOf_ok (a b c : Nat) : Ok (tailOf a b c) := (tw_ok _ _).app ((tw_ok _ _).app (tw_ok _ _))
abbrev s0 (ws : List Nat) : Nat := sumW f0 0 (ws.take 226)
abbrev s1 (ws : List Nat) : Nat := sumW f1 0 (ws.take 226)
abbrev s2 (ws : List Nat) : Nat := sumW f2 0 (ws.take 226)
theorem sum_cast {a w k : Nat} (h : w < 16) : ((a + (15 - w) * k : Nat) : Int) = (a : Int) + (15 - (w : Int)) * (k : Int) := by
  rw [Int.natCast_add, Int.natCast_mul]
  have e : ((15 - w : Nat) : Int) = 15 - (w : Int) := by omega
  rw [e]
section
variable {ws : List Nat} {i w : Nat}
theorem sum_t0 (h : ws[i]? = some w) (hw : w < 16) : ((sumW f0 0 (ws.take (i + 1)) : Nat) : Int) = (sumW f0 0 (ws.take i) : Nat) + (15 - (w : Int)) := by
  rw [sumW_take h, sum_cast hw]
  show _ + _ * ((1 : Nat) : Int) = _
  rw [Int.natCast_one, Int.mul_one]
theorem sum_t1 (h : ws[i]? = some w) (hw : w < 16) : ((sumW f1 0 (ws.take (i + 1)) : Nat) : Int) = (sumW f1 0 (ws.take i) : Nat) + (15 - (w : Int)) * ((i : Int) + 1) := by
  rw [sumW_take h, sum_cast hw]
  rfl
theorem sum_t2 (h : ws[i]? = some w) (hw : w < 16) : ((sumW f2 0 (ws.take (i + 1)) : Nat) : Int) = (sumW f2 0 (ws.take i) : Nat) + (15 - (w : Int)) * ((i : Int) + 1) * ((i : Int) + 1) := by
  rw [sumW_take h, sum_cast hw]
  show _ + _ * (((i + 1) * (i + 1) : Nat) : Int) = _
  rw [Int.natCast_mul, ← Int.mul_assoc]
  rfl
end
end W9
namespace W9
open PySem PySem.Spec PyProof.Rows L2
/-! ### signs of pages -/
def al (c : Nat) : Bool := c == 10 || (decide (32 ≤ c) && decide (c ≤ 36)) || (decide (38 ≤ c) && decide (c ≤ 126))
abbrev lowS : List Nat := [32, 33, 34, 35, 36]
abbrev highS : List Nat := [38, 39, 40, 41, 42, 43, 44, 45, 46, 47, 48, 49, 50, 51, 52, 53, 54, 55, 56, 57, 58, 59, 60, 61, 62, 63, 64, 65, 66, 67, 68, 69, 70, 71, 72, 73, 74, 75, 76, 77, 78, 79, 80, 81, 82, 83, 84, 85, 86, 87, 88, 89, 90, 91, 92, 93, 94, 95, 96, 97, 98, 99, 100, 101, 102, 103, 104, 105, 106, 107, 108, 109, 110, 111, 112, 113, 114, 115, 116, 117, 118, 119, 120, 121, 122, 123, 124, 125, 126]
theorem al_iff {c : Nat} : al c = true ↔ c = 10 ∨ (32 ≤ c ∧ c ≤ 36) ∨ (38 ≤ c ∧ c ≤ 126) := by
  unfold al
  simp only [Bool.or_eq_true, Bool.and_eq_true, decide_eq_true_eq, beq_iff_eq]
  omega
theorem al_lt {c : Nat} (h : al c = true) : c < 127 := by
  rw [al_iff] at h; omega
theorem low_mem {c : Nat} : c ∈ lowS ↔ 32 ≤ c ∧ c ≤ 36 := by
  simp only [lowS, List.mem_cons, List.not_mem_nil, or_false]; omega
theorem high_mem {c : Nat} : c ∈ highS ↔ 38 ≤ c ∧ c ≤ 126 := by
  constructor
  · intro h
    have : ∀ x ∈ highS, 38 ≤ x ∧ x ≤ 126 := by decide
    exact this c h
  · intro ⟨h1, h2⟩
    have : ∀ x, x < 127 → 38 ≤ x → x ∈ highS := by decide
    exact this c (by omega) h1
theorem low_occ : ∀ c < 127, 32 ≤ c → c ≤ 36 → Builtin.Str.occurrences ⟨lowS.toArray⟩ ⟨#[c]⟩ 0 (⟨lowS.toArray⟩ : Str).length 1 = [c - 32] := by decide +kernel
theorem high_occ : ∀ c < 127, 38 ≤ c → c ≤ 126 → Builtin.Str.occurrences ⟨highS.toArray⟩ ⟨#[c]⟩ 0 (⟨highS.toArray⟩ : Str).length 1 = [c - 38] := by decide +kernel
def OkT (t : List Nat) : Prop := ∀ c ∈ t, al c = true
theorem OkT.cons {c : Nat} {t : List Nat} (h : al c = true) (ht : OkT t) : OkT (c :: t) := fun x hx => by
  rcases List.mem_cons.mp hx with e | e
  · rw [e]; exact h
  · exact ht x e
theorem OkT.snoc {c : Nat} {t : List Nat} (ht : OkT t) (h : al c = true) : OkT (t ++ [c]) := fun x hx => by
  rcases List.mem_append.mp hx with e | e
  · exact ht x e
  · rw [List.mem_singleton] at e; rw [e]; exact h
/-! ### numbers by pairs of cells -/
def enc (t : List Nat) : List Nat := (t.map (digs 2)).flatten
def pairs : List Nat → List Nat
  | a :: b :: r => (a * 16 + b) :: pairs r
  | _ => []
theorem digs2 (c : Nat) : digs 2 c = [c / 16 % 16, c % 16] := by
  show [c / 16 ^ 1 % 16, c / 16 ^ 0 % 16] = _
  rw [Nat.pow_one, Nat.pow_zero, Nat.div_one]
theorem enc_cons (c : Nat) (t : List Nat) : enc (c :: t) = [c / 16 % 16, c % 16] ++ enc t := by
  unfold enc
  rw [List.map_cons, List.flatten_cons, digs2]
theorem enc_app (a b : List Nat) : enc (a ++ b) = enc a ++ enc b := by
  unfold enc
  rw [List.map_append, List.flatten_append]
theorem enc_length (t : List Nat) : (enc t).length = 2 * t.length := by
  induction t with
  | nil => rfl
  | cons c t ih =>
    rw [enc_cons, List.length_append, ih]
    show 2 + 2 * t.length = 2 * (t.length + 1)
    omega
theorem enc_ok (t : List Nat) : Ok (enc t) := by
  induction t with
  | nil => exact Ok.nil
  | cons c t ih =>
    rw [enc_cons]
    refine Ok.app (fun w hw => ?_) ih
    rcases List.mem_cons.mp hw with h | h
    · rw [h]; exact Nat.mod_lt _ (by decide)
    · rw [List.mem_singleton] at h; rw [h]; exact Nat.mod_lt _ (by decide)
theorem pairs_enc {t : List Nat} (h : ∀ c ∈ t, c < 256) : pairs (enc t) = t := by
  induction t with
  | nil => rfl
  | cons c t ih =>
    rw [enc_cons]
    show (c / 16 % 16 * 16 + c % 16) :: pairs (enc t) = _
    have := h c List.mem_cons_self
    rw [ih fun x hx => h x (List.mem_cons_of_mem _ hx)]
    congr 1
    omega
theorem enc_pairs : ∀ {l : List Nat} {n : Nat}, l.length = 2 * n → Ok l → enc (pairs l) = l
  | [], _, _, _ => rfl
  | [a], n, h, _ => by
    have h : 1 = 2 * n := h
    omega
  | a :: b :: r, n, h, ho => by
    have h : r.length + 1 + 1 = 2 * n := h
    show enc ((a * 16 + b) :: pairs r) = _
    have ha := ho.head
    have hb := ho.tail.head
    rw [enc_cons, enc_pairs (n := n - 1) (by omega) ho.tail.tail]
    show (a * 16 + b) / 16 % 16 :: (a * 16 + b) % 16 :: r = _
    have e1 : (a * 16 + b) / 16 % 16 = a := by omega
    have e2 : (a * 16 + b) % 16 = b := by omega
    rw [e1, e2]
theorem pairs_length : ∀ (l : List Nat) (n : Nat), l.length = 2 * n → (pairs l).length = n
  | [], n, h => by
    have h : 0 = 2 * n := h
    show 0 = n; omega
  | [a], n, h => by
    have h : 1 = 2 * n := h
    omega
  | a :: b :: r, n, h => by
    have h : r.length + 1 + 1 = 2 * n := h
    show (pairs r).length + 1 = n
    rw [pairs_length r (n - 1) (by omega)]
    omega
theorem pairs_lt : ∀ {l : List Nat}, Ok l → ∀ c ∈ pairs l, c < 256
  | [], _, c, h => by cases h
  | [a], _, c, h => by cases h
  | a :: b :: r, ho, c, h => by
    rcases List.mem_cons.mp h with e | e
    · have ha := ho.head
      have hb := ho.tail.head
      omega
    · exact pairs_lt ho.tail.tail c e
theorem pairs_get : ∀ {l : List Nat} {i : Nat}, 2 * i + 2 ≤ l.length → (pairs l)[i]? = some (num ((l.drop (2 * i)).take 2))
  | [], i, h => by simp at h
  | [a], i, h => by
    have h : 2 * i + 2 ≤ 1 := h
    omega
  | a :: b :: r, 0, _ => by
    show some (a * 16 + b) = some ((0 * 16 + a) * 16 + b)
    rw [Nat.zero_mul, Nat.zero_add]
  | a :: b :: r, i + 1, h => by
    have h : 2 * (i + 1) + 2 ≤ r.length + 1 + 1 := h
    show (pairs r)[i]? = _
    rw [pairs_get (l := r) (i := i) (by omega)]
    rfl
theorem pairs_drop : ∀ (l : List Nat) (n : Nat), (pairs l).drop n = pairs (l.drop (2 * n))
  | l, 0 => rfl
  | [], n + 1 => by simp [pairs]
  | [a], n + 1 => by
    have e : ([a] : List Nat).drop (2 * (n + 1)) = [] := List.drop_of_length_le (by simp; omega)
    rw [e]
    simp [pairs]
  | a :: b :: r, n + 1 => by
    show (pairs r).drop n = _
    rw [pairs_drop r n]
    rfl
theorem enc_rep (n : Nat) : enc (List.replicate n 255) = List.replicate (2 * n) 15 := by
  induction n with
  | zero => rfl
  | succ n ih =>
    rw [List.replicate_succ, enc_cons, ih]
    rfl
/-! ### a text's cells; the text of cells -/
def cellsOf (t : List Nat) : List Nat := enc t ++ List.replicate (226 - 2 * t.length) 15
theorem cellsOf_length {t : List Nat} (h : t.length ≤ 113) : (cellsOf t).length = 226 := by
  unfold cellsOf
  rw [List.length_append, enc_length, List.length_replicate]
  omega
theorem cellsOf_ok (t : List Nat) : Ok (cellsOf t) := (enc_ok t).app (Ok.rep (by decide))
theorem cellsOf_enc (t : List Nat) : cellsOf t = enc (t ++ List.replicate (113 - t.length) 255) := by
  rw [enc_app, enc_rep]
  unfold cellsOf
  congr 2
  omega
abbrev ps (ws : List Nat) : List Nat := pairs (ws.take 226)
def isT (ws t : List Nat) : Bool := t.all al && decide (ps ws = t ++ List.replicate (113 - t.length) 255)
def dec (ws : List Nat) : Option (List Nat) :=
  let t := (ps ws).takeWhile (· != 255)
  if isT ws t = true then some t else none
theorem ps_length {ws : List Nat} (h : 226 ≤ ws.length) : (ps ws).length = 113 := pairs_length _ 113 (by rw [List.length_take]; omega)
theorem al_ne {c : Nat} (h : al c = true) : (c != 255) = true := by
  have := al_lt h
  simp only [bne_iff_ne, ne_eq]
  omega
theorem takeWhile_rep {t : List Nat} {n : Nat} (h : OkT t) : (t ++ List.replicate n 255).takeWhile (· != 255) = t := by
  induction t with
  | nil =>
    cases n with
    | zero => rfl
    | succ n => rw [List.nil_append, List.replicate_succ, List.takeWhile_cons]; rfl
  | cons c t ih =>
    rw [List.cons_append, List.takeWhile_cons, if_pos (al_ne (h c List.mem_cons_self)), ih fun x hx => h x (List.mem_cons_of_mem _ hx)]
theorem isT_okT {ws t : List Nat} (h : isT ws t = true) : OkT t := fun c hc => by
  unfold isT at h
  rw [Bool.and_eq_true, List.all_eq_true] at h
  exact h.1 c hc
theorem isT_eq {ws t : List Nat} (h : isT ws t = true) : ps ws = t ++ List.replicate (113 - t.length) 255 := by
  unfold isT at h
  rw [Bool.and_eq_true] at h
  exact of_decide_eq_true h.2
theorem isT_mk {ws t : List Nat} (h : OkT t) (e : ps ws = t ++ List.replicate (113 - t.length) 255) : isT ws t = true := by
  unfold isT
  rw [Bool.and_eq_true, List.all_eq_true]
  exact ⟨h, decide_eq_true e⟩
theorem dec_of {ws t : List Nat} (h : isT ws t = true) : dec ws = some t := by
  have e : (ps ws).takeWhile (· != 255) = t := by rw [isT_eq h]; exact takeWhile_rep (isT_okT h)
  show (if isT ws ((ps ws).takeWhile (· != 255)) = true then some ((ps ws).takeWhile (· != 255)) else none) = _
  rw [e, if_pos h]
theorem dec_some {ws t : List Nat} (h : dec ws = some t) : isT ws t = true := by
  have h : (if isT ws ((ps ws).takeWhile (· != 255)) = true then some ((ps ws).takeWhile (· != 255)) else none) = some t := h
  split at h
  · next q => cases h; exact q
  · cases h
theorem dec_none {ws : List Nat} (h : ∀ t, isT ws t ≠ true) : dec ws = none := by
  cases q : dec ws with
  | none => rfl
  | some t => exact absurd (dec_some q) (h t)
theorem isT_len {ws t : List Nat} (hl : 226 ≤ ws.length) (h : isT ws t = true) : t.length ≤ 113 := by
  have e := congrArg List.length (isT_eq h)
  rw [ps_length hl, List.length_append, List.length_replicate] at e
  omega
/-- the text is told by its cells -/
theorem isT_cells {ws t : List Nat} (ho : Ok ws) (hl : 226 ≤ ws.length) (ht : OkT t) (hn : t.length ≤ 113) : isT ws t = true ↔ cellsOf t = ws.take 226 := by
  constructor
  · intro h
    rw [cellsOf_enc, ← isT_eq h]
    exact enc_pairs (n := 113) (by rw [List.length_take]; omega) (ho.tk 226)
  · intro h
    refine isT_mk ht ?_
    unfold ps
    rw [← h, cellsOf_enc]
    refine pairs_enc fun c hc => ?_
    rcases List.mem_append.mp hc with e | e
    · have := al_lt (ht c e); omega
    · have := List.eq_of_mem_replicate e; omega
theorem dec_okT {ws t : List Nat} (h : dec ws = some t) : OkT t := isT_okT (dec_some h)
theorem dec_len {ws t : List Nat} (hl : 226 ≤ ws.length) (h : dec ws = some t) : t.length ≤ 113 := isT_len hl (dec_some h)
theorem dec_cells {ws t : List Nat} (ho : Ok ws) (hl : 226 ≤ ws.length) (h : dec ws = some t) : cellsOf t = ws.take 226 := (isT_cells ho hl (dec_okT h) (dec_len hl h)).mp (dec_some h)
/-- what the scan has found so far -/
theorem dec_scan {ws acc : List Nat} (ho : Ok ws) (hl : 226 ≤ ws.length) (ha : OkT acc) (hp : acc = (ps ws).take acc.length) (he : acc.length = 113 ∨ (ps ws)[acc.length]? = some 255) : dec ws = if cellsOf acc = ws.take 226 then some acc else none := by
  have hn : acc.length ≤ 113 := by
    rcases he with h | h
    · omega
    · have := get_lt h
      rw [ps_length hl] at this
      omega
  by_cases h : cellsOf acc = ws.take 226
  · rw [if_pos h]
    exact dec_of ((isT_cells ho hl ha hn).mpr h)
  · rw [if_neg h]
    refine dec_none fun t ht => h ?_
    have e : (ps ws).takeWhile (· != 255) = acc := by
      have e2 : ps ws = acc ++ (ps ws).drop acc.length := by
        conv => lhs; rw [← List.take_append_drop acc.length (ps ws)]
        rw [← hp]
      rw [e2]
      have e3 : ∀ a : List Nat, OkT a → ∀ r : List Nat, (r = [] ∨ r.head? = some 255) → (a ++ r).takeWhile (· != 255) = a := by
        intro a hh r hr
        induction a with
        | nil =>
          rcases hr with e | e
          · rw [e]; rfl
          · cases r with
            | nil => rfl
            | cons x r => cases e; rfl
        | cons c a ih => rw [List.cons_append, List.takeWhile_cons, if_pos (al_ne (hh c List.mem_cons_self)), ih fun x hx => hh x (List.mem_cons_of_mem _ hx)]
      refine e3 acc ha _ ?_
      rcases he with e | e
      · left
        exact List.drop_of_length_le (by rw [ps_length hl, e]; exact Nat.le_refl _)
      · right
        rw [List.head?_drop]
        exact e
    have e2 := dec_of ht
    have e3 : (if isT ws ((ps ws).takeWhile (· != 255)) = true then some ((ps ws).takeWhile (· != 255)) else none) = some t := e2
    rw [e] at e3
    split at e3
    · cases e3
      exact (isT_cells ho hl ha hn).mp ht
    · cases e3
theorem dec_bad {ws : List Nat} {i n : Nat} (hi : (ps ws)[i]? = some n) (hb : al n = false) (hn : n ≠ 255) : dec ws = none := by
  refine dec_none fun t ht => ?_
  rw [isT_eq ht] at hi
  by_cases h : i < t.length
  · rw [List.getElem?_append_left h] at hi
    have := isT_okT ht n (List.mem_of_getElem? hi)
    rw [hb] at this
    cases this
  · rw [List.getElem?_append_right (by omega)] at hi
    exact hn (List.eq_of_mem_replicate (List.mem_of_getElem? hi))
def optT : Option (List Nat) → PyData
  | none => .none
  | some t => .str ⟨t.toArray⟩
def oneS (n : Nat) : PyData := if al n = true then .str ⟨[n].toArray⟩ else .none
def sealT (t : List Nat) : List Nat := cellsOf t ++ tailOf (s0 (cellsOf t)) (s1 (cellsOf t)) (s2 (cellsOf t))
theorem sealT_length {t : List Nat} (h : t.length ≤ 113) : (sealT t).length = 256 := by
  unfold sealT
  rw [List.length_append, cellsOf_length h, tailOf_length]
theorem sealT_ok (t : List Nat) : Ok (sealT t) := (cellsOf_ok t).app (tailOf_ok _ _ _)
end W9
namespace W9
open PySem PySem.Spec PyProof.Rows L2
section
variable {X : Cx} {m : MS} {ds : DE} {e c a b tg elt iter : Expr} {es : List Expr} {pos : Pos}
theorem mset_head {p : Addr} {u v : OV} (h : p ∉ ad m) : mset ((p, u) :: m) p v = (p, v) :: m := by
  show (if p = p then (p, v) else (p, u)) :: m.map _ = _
  rw [if_pos rfl]
  congr 1
  refine (List.map_congr_left fun q hq => ?_).trans (List.map_id _)
  rw [if_neg fun z => h (by rw [← z]; exact mem_ad hq)]
  rfl
/-- a new list that is owned, and unlike what is owned already -/
theorem we_lstN {P : SD → MS → Prop} (h : WA X es ds m fun xs m1 => ∃ l, xs = l.map .py ∧ l.length ≤ 1000000 ∧ ∀ p, p ∉ ad m1 → P (.raw (.ref p)) ((p, .dl l) :: m1)) : WE X (.List es pos) ds m P := fun σ G H E w Q q => oE (pe_lst (pA es)) (by
  refine h σ G H E w _ fun vs xs m1 G1 H1 g1 r1 ⟨l, e1, hl, p⟩ => ?_
  subst e1
  have r2 := dss_py r1
  refine ⟨by rw [dpa_length r2]; exact Nat.le_trans hl (by decide), fun a ha => ?_⟩
  have g2 := Gr.made (o := .lst vs) (v := .dl l) g1.wd ha ⟨vs, rfl, r2⟩
  have fresh : a ∉ ad m1 := (List.nodup_cons.mp g2.wd.nd).1
  exact q _ _ _ _ _ (g1.trans g2) (.raw _) (p a fresh))
/-- y = [] -/
theorem ws_new {i : Nat} {x : Str} {pos' : Pos} {E : ED} (hN : X.N.Nodup) (h : ∀ p, p ∉ ad m → E.nx (ds.set i (some (.raw (.ref p)))) ((p, .dl []) :: m)) (hi : X.N[i]? = some x := by rfl) (hx : Loc X.env.scope x := by first | exact Or.inl rfl | exact Or.inr rfl)
    (hf : X.fn x = true ∨ X.env.scope.names.lookup x = some .local := by first | exact .inl rfl | exact .inr rfl | assumption) {p2 : Pos}
    (hs2 : swapsWith (.List [] pos) (some (.Name x pos')) p2.line X.env = pure false := by rfl) : WS X (.Assign [.Name x pos'] (.List [] pos) p2) ds m E :=
  ws_set hN (we_lstN (wa_nil ⟨[], rfl, by decide, h⟩)) hi hx hs2 hf
/-- append to what is owned at the head -/
theorem ws_appH {o : Expr} {apos cpos : Pos} {p : Addr} {l : List PyData} {d : PyData} {E : ED} (hp : p ∉ ad m) (ho : EE X o ds (.raw (.ref p))) (he : EE X e ds (.py d)) (hl : l.length < 1000000) (q : E.nx ds ((p, .dl (l ++ [d])) :: m))
    (hbase : attributeBase o "append" X.env (eval o X.env) = eval o X.env := by rfl)
    (hfew : ((backTo cpos (starEach (e :: []) X.env)).all (fun x => !x.1) && (backToKw cpos (keywordEach [] X.env)).all (fun x => x.1.isSome)
      && decide ((e :: ([] : List Expr)).length + ([] : List Keyword).length + (if ([] : List Keyword).isEmpty then 0 else 1) < 30)) = true := by rfl)
    (hline : (apos.endLine == cpos.line) = true := by rfl) (hs : starEach (e :: []) X.env = (false, eval e X.env) :: starEach [] X.env := by rfl) (hplain : (backTo cpos (starEach [] X.env)).any (·.1) = false := by rfl)
    (hsw : swapsWith (.Call (.Attribute o "append" apos) [e] [] cpos) none pos.line X.env = pure false := by rfl) : WS X (.Expr (.Call (.Attribute o "append" apos) [e] [] cpos) pos) ds ((p, .dl l) :: m) E :=
  ws_app ho ⟨l, List.mem_cons_self⟩ (he.to ⟨d, l, rfl, List.mem_cons_self, hl, by rw [mset_head hp]; exact q⟩) hbase hfew hline hs hplain hsw
/-- for, with what holds behind it -/
theorem ws_forB {body : List Stmt} {js : List Nat} {E : ED} (Fin : DE → MS → Prop) (h : WI X tg iter ds m fun xs m1 => ∃ Iv : Nat → DE → MS → Prop, Iv 0 ds m1 ∧
      (∀ i x ds' m', xs[i]? = some x → Iv i ds' m' → WG X tg js x ds' m' fun ds2 m2 => WSs X body ds2 m2 { E with nx := Iv (i + 1), ct := Iv (i + 1), bk := Fin }) ∧ ∀ ds' m', Iv xs.length ds' m' → Fin ds' m')
    (fin : ∀ ds' m', Fin ds' m' → E.nx ds' m')
    (hp : PassesOwn (model X.prog X.w) X.A X.env X.xe := by exact PassesOwn.never) (hc : X.calm = true := by rfl) (hs : ∀ x, foldedSetIterable iter X.env x = pure x := by intro _; rfl) : WS X (.For tg iter body [] pos) ds m E :=
  ws_for (js := js) (fun σ G H E0 w R' q => h σ G H E0 w R' fun J xs m' G' H' g it ⟨Iv, i0, turn, last⟩ => q J xs m' G' H' g it ⟨Iv, i0, fun i x ds' m' hx iv σ G H v e0 w r Q k => turn i x ds' m' hx iv σ G H v e0 w r Q fun σ' ds' m' G' H' g' e' s p => k σ' ds' m' G' H' g' e' s (p.mono (fun _ _ z => z) (fun _ _ z => z) (fun _ _ z => fin _ _ z) (fun _ _ z => z)), fun ds' m' z => fin _ _ (last _ _ z)⟩) hp hc hs
theorem md_joinS {t : List Nat} (hz : t.length ≤ 1000000) : MtD X "str" "str.join" m (S []) [Ls (t.map fun c => PyData.str ⟨[c].toArray⟩)] (S t) := by
  have z : MtD X "str" "str.join" m (S []) [Ls (txts (t.map fun c => [c]))] (S (joinL [] (t.map fun c => [c]))) := md_join (by
    rw [List.map_map]
    have e : (t.map (List.length ∘ fun c => [c])) = t.map fun _ => 1 := List.map_congr_left fun _ _ => rfl
    rw [e]
    have e2 : ∀ t : List Nat, (t.map fun _ => 1).sum = t.length := fun t => by
      induction t with
      | nil => rfl
      | cons c t ih => rw [List.map_cons, List.sum_cons, ih, List.length_cons, Nat.add_comm]
    rw [e2]
    simpa using hz)
  have e1 : joinL [] (t.map fun c => [c]) = t := by
    rw [joinL_nil, flat_sing (fun c => c)]
    exact List.map_id' t
  rw [e1] at z
  unfold txts at z
  rw [List.map_map] at z
  exact z
theorem low_get {n : Nat} (h : 32 ≤ n ∧ n ≤ 36) : lowS[n - 32]? = some n := by
  have : ∀ n < 37, 32 ≤ n → lowS[n - 32]? = some n := by decide
  exact this n (by omega) h.1
theorem high_get {n : Nat} (h : 38 ≤ n ∧ n ≤ 126) : highS[n - 38]? = some n := by
  have : ∀ n < 127, 38 ≤ n → highS[n - 38]? = some n := by decide
  exact this n (by omega) h.1
theorem sd_low {n : Nat} (h : 32 ≤ n ∧ n ≤ 36) : SubD X m (S lowS) (I ((n : Int) - 32)) (S [n]) := sd_str (at_nn (by omega) (by
  have e : ((n : Int) - 32).toNat = n - 32 := by omega
  rw [e]; exact low_get h)) (by decide)
theorem sd_high {n : Nat} (h : 38 ≤ n ∧ n ≤ 126) : SubD X m (S highS) (I ((n : Int) - 38)) (S [n]) := sd_str (at_nn (by omega) (by
  have e : ((n : Int) - 38).toNat = n - 38 := by omega
  rw [e]; exact high_get h)) (by decide)
theorem rg_pairs : RgC 0 226 2 113 := ⟨by decide, by decide, by decide, by decide⟩
theorem cut_nat {α : Type} (l : List α) {i j : Int} {a b : Nat} (h : i = (a : Int)) (h2 : j = (b : Int)) : cut l (some i) (some j) = (l.drop a).take (b - a) := by
  subst h h2
  exact cut_nn l a b
/-- a comprehension over pairs of data -/
theorem ee_lct {α : Type} {j1 j2 : Nat} {x1 x2 : Str} {p1 p2 tpos : Pos} {kk : Nat} {scope : Scope} (l : List α) (g1 g2 : α → PyData) (h : α → PyData) (own : List (Str × Nat)) (ho : own.map (·.2) = [j1, j2]) (hN : X.N.Nodup)
    (hi : EI X (.Tuple [.Name x1 p1, .Name x2 p2] kk tpos) iter ds (l.map fun a => Tp [g1 a, g2 a])) (hl : l.length ≤ 1000000)
    (turn : ∀ a ∈ l, AllBlk X scope fun Y => EE Y elt ((((ds.set j2 none).set j1 none).set j1 (some (.py (g1 a)))).set j2 (some (.py (g2 a)))) (.py (h a)))
    (wg : ∀ s H C cl fp d1 d2 (ds : DE) m (Q : DE → MS → Prop), Q ((ds.set j1 (some (.py d1))).set j2 (some (.py d2))) m → WG (Blk X scope s H C cl fp) (.Tuple [.Name x1 p1, .Name x2 p2] kk tpos) [j1, j2] (Tp [d1, d2]) ds m Q)
    (ok : BlkOk X.N X.env.scope scope own) (hc : X.calm = true := by rfl) (hs : ∀ x, foldedSetIterable iter X.env x = pure x := by intro _; rfl) : EE X (.ListComp elt [⟨.Tuple [.Name x1 p1, .Name x2 p2] kk tpos, iter, [], 0⟩] scope pos) ds (Ls (l.map h)) := fun m =>
  we_lc own hN (hi.to ⟨by rw [List.length_map]; exact hl, fun i acc m' => acc = (l.take i).map h ∧ m' = m, ⟨rfl, rfl⟩, fun i y acc m' hy _ ⟨e1, e2⟩ => by
    subst e1 e2
    rw [ho]
    obtain ⟨a, q, rfl⟩ := map_get hy
    refine fun s H C cl fp => wg _ _ _ _ _ _ _ _ _ _ fun s H C cl fp => wts_nil ?_
    rw [if_pos rfl]
    refine fun s H C cl fp => (turn a (List.mem_of_getElem? q) s H C cl fp).to ⟨_, rfl, ?_, rfl⟩
    rw [List.take_add_one, q, List.map_append]
    rfl, fun acc m' _ ⟨e1, e2⟩ => by
    rw [List.length_map, List.take_length] at e1
    exact ⟨by rw [e1], e2⟩⟩) ok hc hs
end
end W9
namespace W9
open PySem PySem.Spec PyProof.Rows L2
/-! ### told sums -/
def wk : Nat → Nat
  | 0 => 3
  | 1 => 5
  | _ => 7
def atw : Nat → Nat
  | 0 => 226
  | i + 1 => atw i + 2 * wk i
abbrev told (ws : List Nat) (i : Nat) : List Nat := (ws.drop (atw i)).take (wk i)
abbrev nums (ws : List Nat) (i : Nat) : Nat := num (told ws i)
abbrev cnd (ws : List Nat) (i : Nat) : Prop := cmpl (told ws i) = (ws.drop (atw i + wk i)).take (wk i)
def tolds (ws : List Nat) : Option (Nat × Nat × Nat) := if cnd ws 0 ∧ cnd ws 1 ∧ cnd ws 2 then some (nums ws 0, nums ws 1, nums ws 2) else none
def told2 (ws : List Nat) : Option (Nat × Nat) := if cnd ws 0 ∧ cnd ws 1 then some (nums ws 0, nums ws 1) else none
theorem told_tail {ws : List Nat} (hl : ws.length = 256) (ho : Ok ws) {a b c : Nat} (h : tolds ws = some (a, b, c)) : ws.drop 226 = tailOf a b c := by
  unfold tolds at h
  split at h
  · next q =>
    obtain ⟨q0, q1, q2⟩ := q
    cases h
    have piece : ∀ i, i < 3 → (ws.drop (atw i)).take (2 * wk i) = tw (wk i) (nums ws i) := fun i hi => by
      have hlen : (told ws i).length = wk i := by
        rw [List.length_take, List.length_drop, hl]
        match i, hi with
        | 0, _ => rfl
        | 1, _ => rfl
        | 2, _ => rfl
      have e1 : digs (wk i) (nums ws i) = told ws i := by
        have := digs_num ((ho.dp (atw i)).tk (wk i))
        rw [show ((ws.drop (atw i)).take (wk i)).length = wk i from hlen] at this
        exact this
      have e2 : cmpl (told ws i) = (ws.drop (atw i + wk i)).take (wk i) := by
        match i, hi with
        | 0, _ => exact q0
        | 1, _ => exact q1
        | 2, _ => exact q2
      unfold tw
      rw [e1, e2, ← List.drop_drop, Nat.two_mul, List.take_add]
    have p0 := piece 0 (by decide)
    have p1 := piece 1 (by decide)
    have p2 := piece 2 (by decide)
    have p0 : (ws.drop 226).take 6 = tw 3 (nums ws 0) := p0
    have p1 : (ws.drop 232).take 10 = tw 5 (nums ws 1) := p1
    have p2 : (ws.drop 242).take 14 = tw 7 (nums ws 2) := p2
    unfold tailOf
    rw [← p0, ← p1, ← p2]
    have e3 : (ws.drop 242).take 14 = ws.drop 242 := List.take_of_length_le (by rw [List.length_drop, hl]; decide)
    rw [e3]
    have d1 : ws.drop 242 = (ws.drop 232).drop 10 := by rw [List.drop_drop]
    have d2 : ws.drop 232 = (ws.drop 226).drop 6 := by rw [List.drop_drop]
    rw [d1, List.take_append_drop, d2, List.take_append_drop]
  · cases h
theorem tail_told {ws : List Nat} {a b c : Nat} (ha : a < 16 ^ 3) (hb : b < 16 ^ 5) (hc : c < 16 ^ 7) (h : ws.drop 226 = tailOf a b c) : tolds ws = some (a, b, c) := by
  have hd : ∀ i, 226 ≤ i → ws.drop i = (tailOf a b c).drop (i - 226) := fun i hi => by
    rw [← h, List.drop_drop]
    congr 1
    omega
  have l1 := digs_length 3 a
  have l2 := digs_length 5 b
  have l3 := digs_length 7 c
  have x0 : ws.drop 226 = digs 3 a ++ (cmpl (digs 3 a) ++ (tw 5 b ++ tw 7 c)) := by
    rw [h]
    unfold tailOf
    rw [show tw 3 a = digs 3 a ++ cmpl (digs 3 a) from rfl, List.append_assoc]
  have x1 : ws.drop 229 = cmpl (digs 3 a) ++ (tw 5 b ++ tw 7 c) := by
    have : ws.drop 229 = (ws.drop 226).drop 3 := by rw [List.drop_drop]
    rw [this, x0, List.drop_left' l1]
  have x2 : ws.drop 232 = digs 5 b ++ (cmpl (digs 5 b) ++ tw 7 c) := by
    have : ws.drop 232 = (ws.drop 229).drop 3 := by rw [List.drop_drop]
    rw [this, x1, List.drop_left' (by rw [List.length_map, l1]), show tw 5 b = digs 5 b ++ cmpl (digs 5 b) from rfl, List.append_assoc]
  have x3 : ws.drop 237 = cmpl (digs 5 b) ++ tw 7 c := by
    have : ws.drop 237 = (ws.drop 232).drop 5 := by rw [List.drop_drop]
    rw [this, x2, List.drop_left' l2]
  have x4 : ws.drop 242 = digs 7 c ++ cmpl (digs 7 c) := by
    have : ws.drop 242 = (ws.drop 237).drop 5 := by rw [List.drop_drop]
    rw [this, x3, List.drop_left' (by rw [List.length_map, l2])]
    rfl
  have x5 : ws.drop 249 = cmpl (digs 7 c) := by
    have : ws.drop 249 = (ws.drop 242).drop 7 := by rw [List.drop_drop]
    rw [this, x4, List.drop_left' l3]
  have t0 : told ws 0 = digs 3 a := by
    show (ws.drop 226).take 3 = _
    rw [x0, List.take_left' l1]
  have t1 : told ws 1 = digs 5 b := by
    show (ws.drop 232).take 5 = _
    rw [x2, List.take_left' l2]
  have t2 : told ws 2 = digs 7 c := by
    show (ws.drop 242).take 7 = _
    rw [x4, List.take_left' l3]
  have c0 : cnd ws 0 := by
    show cmpl (told ws 0) = (ws.drop 229).take 3
    rw [t0, x1, List.take_left' (by rw [List.length_map, l1])]
  have c1 : cnd ws 1 := by
    show cmpl (told ws 1) = (ws.drop 237).take 5
    rw [t1, x3, List.take_left' (by rw [List.length_map, l2])]
  have c2 : cnd ws 2 := by
    show cmpl (told ws 2) = (ws.drop 249).take 7
    rw [t2, x5, List.take_of_length_le (by rw [List.length_map, l3]; decide)]
  unfold tolds
  rw [if_pos ⟨c0, c1, c2⟩]
  show some (num (told ws 0), num (told ws 1), num (told ws 2)) = _
  rw [t0, t1, t2, num_digs, num_digs, num_digs, Nat.mod_eq_of_lt ha, Nat.mod_eq_of_lt hb, Nat.mod_eq_of_lt hc]
theorem told2_of {ws : List Nat} {a b c : Nat} (h : tolds ws = some (a, b, c)) : told2 ws = some (a, b) := by
  unfold tolds at h
  split at h
  · next q => cases h; exact if_pos ⟨q.1, q.2.1⟩
  · cases h
/-! ### a lifted cell -/
abbrev w0 (ws : List Nat) (i : Nat) : Nat := ws.getD i 0
/-- of the reader's first two sums -/
def lift2 (ws : List Nat) : Option Nat :=
  match told2 ws with
  | none => none
  | some (a, b) =>
    let by_ : Int := (s0 ws : Int) - a
    let far : Int := (s1 ws : Int) - b
    let at_ := far / by_ - 1
    if (1 ≤ by_ ∧ by_ ≤ 15) ∧ (0 ≤ at_ ∧ at_ < 226) ∧ far = by_ * (at_ + 1) ∧ w0 ws at_.toNat + by_ ≤ 15 then some at_.toNat else none
def by2 (ws : List Nat) : Nat := s0 ws - nums ws 0
def lifted (ws : List Nat) (p : Nat) : List Nat := ws.set p (w0 ws p + by2 ws)
/-- the program's own -/
def ft (ws : List Nat) : Option (List Nat × Nat) :=
  match tolds ws with
  | none => none
  | some (a, b, c) =>
    let more : Int := (s0 ws : Int) - a
    let placed : Int := (s1 ws : Int) - b
    let squared : Int := (s2 ws : Int) - c
    let at_ := placed / more - 1
    if ¬ (more < 1 ∨ placed % more ≠ 0) ∧ ¬ (¬ (0 ≤ at_ ∧ at_ < 226) ∨ squared ≠ placed * (at_ + 1) ∨ w0 ws at_.toNat + more > 15) then
      (dec (lifted ws at_.toNat)).map fun t => (t, at_.toNat)
    else none
def unl (a b : List Nat) (lo n : Nat) : List Nat := ((List.range n).map (lo + ·)).filter fun p => decide (w0 a p ≠ w0 b p)
def fs (ws : List Nat) : Option (List Nat × Nat) :=
  match dec ws with
  | none => none
  | some t => match unl ws (sealT t) 226 30 with
    | [p] => if w0 ws p > w0 (sealT t) p then none else some (t, p)
    | _ => none
def fal (ws pg : List Nat) : Option Nat :=
  match unl ws pg 0 256 with
  | [p] => if w0 ws p < w0 pg p then some p else none
  | _ => none
abbrev tx (l : List Nat) : PyData := .str ⟨l.toArray⟩
abbrev nE : List Nat := [101, 109, 112, 116, 121]
abbrev nW : List Nat := [119, 104, 111, 108, 101]
abbrev nM : List Nat := [109, 101, 110, 100, 101, 100]
abbrev nT : List Nat := [116, 111, 114, 110]
def po (ws : List Nat) : PyData :=
  if ws = List.replicate 256 15 then .tuple [tx nE]
  else if (match dec ws with | some t => decide (sealT t = ws) | none => false) = true then .tuple [tx nW, tx ((dec ws).getD [])]
  else match (match ft ws with | some r => some r | none => fs ws) with
    | none => .tuple [tx nT]
    | some (t, p) => .tuple [tx nM, tx t, .int p]
def tryH (ws : List Nat) : Option (List Nat) → Option PyData
  | none => none
  | some t => if sealT t = ws then some (.tuple [tx nW, tx t]) else (fal ws (sealT t)).map fun p => .tuple [tx nM, tx t, .int p]
def lo (ws : List Nat) : PyData :=
  if ws = List.replicate 256 15 then .tuple [tx nE]
  else match tryH ws (dec ws) with
    | some r => r
    | none => match tryH ws ((lift2 ws).bind fun p => dec (lifted ws p)) with
      | some r => r
      | none => .tuple [tx nT]
end W9
namespace W9
open PySem PySem.Spec PyProof.Rows L2
theorem sumW_set (f : Nat → Nat) : ∀ (l : List Nat) (i p v w : Nat), l[p]? = some w → sumW f i (l.set p v) + (15 - w) * f (i + p) = sumW f i l + (15 - v) * f (i + p)
  | [], i, p, v, w, h => by simp at h
  | x :: l, i, 0, v, w, h => by
    have e : x = w := Option.some.inj h
    subst e
    show (15 - v) * f i + sumW f (i + 1) l + (15 - x) * f (i + 0) = (15 - x) * f i + sumW f (i + 1) l + (15 - v) * f (i + 0)
    simp only [Nat.add_zero]
    omega
  | x :: l, i, p + 1, v, w, h => by
    have ih := sumW_set f l (i + 1) p v w (by simpa using h)
    have e : i + 1 + p = i + (p + 1) := by omega
    rw [e] at ih
    show (15 - x) * f i + sumW f (i + 1) (l.set p v) + (15 - w) * f (i + (p + 1)) = (15 - x) * f i + sumW f (i + 1) l + (15 - v) * f (i + (p + 1))
    omega
theorem w0_get {ws : List Nat} {p : Nat} (h : p < ws.length) : ws[p]? = some (w0 ws p) := by
  rw [List.getElem?_eq_getElem h]
  congr 1
  simp [w0, List.getD, h]
theorem w0_of {ws : List Nat} {p v : Nat} (h : ws[p]? = some v) : w0 ws p = v := by
  simp [w0, List.getD, h]
theorem w0_lt {ws : List Nat} (ho : Ok ws) (p : Nat) : w0 ws p < 16 := by
  by_cases h : p < ws.length
  · exact ho.get (w0_get h)
  · have : ws[p]? = none := List.getElem?_eq_none (by omega)
    simp [w0, List.getD, this]
theorem ext_w0 {a b : List Nat} (hl : a.length = b.length) (h : ∀ p, p < a.length → w0 a p = w0 b p) : a = b := by
  refine List.ext_getElem? fun p => ?_
  by_cases hp : p < a.length
  · rw [w0_get hp, w0_get (by omega), h p hp]
  · rw [List.getElem?_eq_none (by omega), List.getElem?_eq_none (by omega)]
theorem w0_set_same {ws : List Nat} {p v : Nat} (h : p < ws.length) : w0 (ws.set p v) p = v := w0_of (by rw [List.getElem?_set_self h])
theorem w0_set_ne {ws : List Nat} {p q v : Nat} (h : p ≠ q) : w0 (ws.set p v) q = w0 ws q := by
  simp [w0, List.getD, List.getElem?_set_ne h]
theorem w0_take {ws : List Nat} {n p : Nat} (h : p < n) : w0 (ws.take n) p = w0 ws p := by
  simp [w0, List.getD, List.getElem?_take, h]
theorem w0_drop {ws : List Nat} {n p : Nat} : w0 (ws.drop n) p = w0 ws (n + p) := by
  simp [w0, List.getD, List.getElem?_drop]
theorem w0_app1 {a b : List Nat} {p : Nat} (h : p < a.length) : w0 (a ++ b) p = w0 a p := by
  simp [w0, List.getD, List.getElem?_append_left h]
theorem w0_app2 {a b : List Nat} {p : Nat} : w0 (a ++ b) (a.length + p) = w0 b p := by
  simp [w0, List.getD, List.getElem?_append_right]
/-! ### bounds of the sums -/
theorem s0_lt (ws : List Nat) : s0 ws < 16 ^ 3 := by
  have h := sumW_le (f := f0) (b := 1) 0 (ws.take 226) fun _ _ => Nat.le_refl 1
  have h2 : (ws.take 226).length ≤ 226 := by rw [List.length_take]; omega
  have h3 : s0 ws = sumW f0 0 (ws.take 226) := rfl
  omega
theorem s1_lt (ws : List Nat) : s1 ws < 16 ^ 5 := by
  have h2 : (ws.take 226).length ≤ 226 := by rw [List.length_take]; omega
  have h := sumW_le (f := f1) (b := 226) 0 (ws.take 226) fun j hj => by show j + 1 ≤ 226; omega
  have h3 : s1 ws = sumW f1 0 (ws.take 226) := rfl
  omega
theorem s2_lt (ws : List Nat) : s2 ws < 16 ^ 7 := by
  have h2 : (ws.take 226).length ≤ 226 := by rw [List.length_take]; omega
  have h := sumW_le (f := f2) (b := 226 * 226) 0 (ws.take 226) fun j hj => by show (j + 1) * (j + 1) ≤ 226 * 226; exact Nat.mul_le_mul (by omega) (by omega)
  have h3 : s2 ws = sumW f2 0 (ws.take 226) := rfl
  omega
/-! ### raising a cell -/
section
variable {ws : List Nat} {p d : Nat}
theorem raise_sum (f : Nat → Nat) (hl : 226 ≤ ws.length) (hp : p < 226) (hd : w0 ws p + d ≤ 15) : sumW f 0 (ws.take 226) = sumW f 0 ((ws.set p (w0 ws p + d)).take 226) + d * f p := by
  have hg : (ws.take 226)[p]? = some (w0 ws p) := by rw [List.getElem?_take, if_pos hp, w0_get (by omega)]
  have h := sumW_set f (ws.take 226) 0 p (w0 ws p + d) (w0 ws p) hg
  rw [← List.take_set, Nat.zero_add] at h
  have e : 15 - w0 ws p = (15 - (w0 ws p + d)) + d := by omega
  rw [e, Nat.add_mul] at h
  omega
theorem raise_ok (ho : Ok ws) (hd : w0 ws p + d ≤ 15) : Ok (ws.set p (w0 ws p + d)) := fun w hw => by
  rcases List.mem_or_eq_of_mem_set hw with h | h
  · exact ho w h
  · omega
end
theorem sealT_eq {L : List Nat} {t : List Nat} (ho : Ok L) (hl : 226 ≤ L.length) (h : dec L = some t) : sealT t = L.take 226 ++ tailOf (s0 L) (s1 L) (s2 L) := by
  have e := dec_cells ho hl h
  unfold sealT
  rw [e]
  have e2 : ∀ f, sumW f 0 ((L.take 226).take 226) = sumW f 0 (L.take 226) := fun f => by rw [List.take_take, Nat.min_self]
  rw [show s0 (L.take 226) = s0 L from e2 f0, show s1 (L.take 226) = s1 L from e2 f1, show s2 (L.take 226) = s2 L from e2 f2]
/-! ### places at which two pages are unlike -/
theorem mem_unl {a b : List Nat} {lo n q : Nat} : q ∈ unl a b lo n ↔ (lo ≤ q ∧ q < lo + n) ∧ w0 a q ≠ w0 b q := by
  unfold unl
  rw [List.mem_filter, List.mem_map, decide_eq_true_eq]
  constructor
  · rintro ⟨⟨i, hi, rfl⟩, h⟩
    rw [List.mem_range] at hi
    exact ⟨by omega, h⟩
  · rintro ⟨⟨h1, h2⟩, h⟩
    exact ⟨⟨q - lo, List.mem_range.mpr (by omega), by omega⟩, h⟩
theorem filter_one {l : List Nat} {P : Nat → Bool} {p : Nat} (hn : l.Nodup) (hm : p ∈ l) (h : ∀ q ∈ l, P q = true ↔ q = p) : l.filter P = [p] := by
  induction l with
  | nil => cases hm
  | cons x l ih =>
    rw [List.nodup_cons] at hn
    by_cases e : x = p
    · subst e
      rw [List.filter_cons_of_pos ((h x List.mem_cons_self).mpr rfl)]
      congr 1
      rw [List.filter_eq_nil_iff]
      intro q hq hP
      have := (h q (List.mem_cons_of_mem _ hq)).mp hP
      subst this
      exact hn.1 hq
    · have hx : ¬ P x = true := fun z => e ((h x List.mem_cons_self).mp z)
      rw [List.filter_cons_of_neg hx]
      refine ih hn.2 ?_ fun q hq => h q (List.mem_cons_of_mem _ hq)
      rcases List.mem_cons.mp hm with z | z
      · exact absurd z.symm e
      · exact z
theorem range_nodup (lo n : Nat) : ((List.range n).map (lo + ·)).Nodup := by
  refine List.Pairwise.map (R := fun a b => a ≠ b) _ (fun a b h => ?_) List.nodup_range
  omega
theorem unl_one {a b : List Nat} {lo n p : Nat} (hp : lo ≤ p ∧ p < lo + n) (h : ∀ q, lo ≤ q → q < lo + n → (w0 a q ≠ w0 b q ↔ q = p)) : unl a b lo n = [p] := by
  refine filter_one (range_nodup lo n) (List.mem_map.mpr ⟨p - lo, List.mem_range.mpr (by omega), by omega⟩) fun q hq => ?_
  obtain ⟨i, hi, rfl⟩ := List.mem_map.mp hq
  rw [List.mem_range] at hi
  rw [decide_eq_true_eq]
  exact h _ (by omega) (by omega)
theorem unl_mem {a b : List Nat} {lo n p : Nat} (h : unl a b lo n = [p]) : ((lo ≤ p ∧ p < lo + n) ∧ w0 a p ≠ w0 b p) ∧ ∀ q, lo ≤ q → q < lo + n → w0 a q ≠ w0 b q → q = p := by
  refine ⟨mem_unl.mp (by rw [h]; exact List.mem_singleton_self p), fun q h1 h2 h3 => ?_⟩
  have : q ∈ unl a b lo n := mem_unl.mpr ⟨⟨h1, h2⟩, h3⟩
  rw [h, List.mem_singleton] at this
  exact this
theorem unl_tail {a b : List Nat} (h : a.take 226 = b.take 226) : unl a b 0 256 = unl a b 226 30 := by
  have e : (List.range 256).map (0 + ·) = (List.range 226).map (0 + ·) ++ (List.range 30).map (226 + ·) := by decide
  unfold unl
  rw [e, List.filter_append]
  have z : ((List.range 226).map (0 + ·)).filter (fun p => decide (w0 a p ≠ w0 b p)) = [] := by
    rw [List.filter_eq_nil_iff]
    intro q hq
    obtain ⟨i, hi, rfl⟩ := List.mem_map.mp hq
    rw [List.mem_range] at hi
    have : w0 a (0 + i) = w0 b (0 + i) := by rw [← w0_take (n := 226) (by omega), h, w0_take (by omega)]
    rw [decide_eq_true_eq]
    exact fun z => z this
  rw [z, List.nil_append]
theorem fal_some {ws pg : List Nat} {q : Nat} (h : fal ws pg = some q) : unl ws pg 0 256 = [q] ∧ w0 ws q < w0 pg q := by
  unfold fal at h
  split at h
  · next p e =>
    split at h
    · next z => cases h; exact ⟨e, z⟩
    · cases h
  · cases h
theorem fal_mk {ws pg : List Nat} {q : Nat} (h : unl ws pg 0 256 = [q]) (h2 : w0 ws q < w0 pg q) : fal ws pg = some q := by
  unfold fal
  rw [h]
  exact if_pos h2
end W9
namespace W9
open PySem PySem.Spec PyProof.Rows L2
/-! ### both readers say the same of each page of cells -/
section
variable {ws : List Nat}
/-- what the program's mending in the text means -/
theorem ft_some {t : List Nat} {p : Nat} (h : ft ws = some (t, p)) : ∃ a b c, tolds ws = some (a, b, c) ∧ p < 226 ∧ 1 ≤ by2 ws ∧ w0 ws p + by2 ws ≤ 15 ∧ s0 ws = a + by2 ws ∧ s1 ws = b + by2 ws * (p + 1) ∧ s2 ws = c + by2 ws * ((p + 1) * (p + 1)) ∧ dec (lifted ws p) = some t := by
  unfold ft at h
  split at h
  · cases h
  · next a b c e =>
    dsimp only at h
    split at h
    · next q =>
      obtain ⟨q1, q2⟩ := q
      have ea : a = nums ws 0 := by
        unfold tolds at e
        split at e
        · cases e; rfl
        · cases e
      cases hd : dec (lifted ws ((((s1 ws : Int) - b) / ((s0 ws : Int) - a)) - 1).toNat) with
      | none => rw [hd] at h; cases h
      | some t' =>
        rw [hd] at h
        have h := Option.some.inj h
        obtain ⟨r1, r2⟩ := Prod.mk.inj h
        subst r1
        generalize hat : (((s1 ws : Int) - b) / ((s0 ws : Int) - a)) - 1 = at_ at *
        have hq1 := not_or.mp q1
        have hm : (1 : Int) ≤ (s0 ws : Int) - a := by omega
        have hz : ((s1 ws : Int) - b) % ((s0 ws : Int) - a) = 0 := by
          have := hq1.2
          omega
        have hq2 := not_or.mp q2
        have hr : 0 ≤ at_ ∧ at_ < 226 := Decidable.not_not.mp hq2.1
        have hq3 := not_or.mp hq2.2
        have hsq : (s2 ws : Int) - c = ((s1 ws : Int) - b) * (at_ + 1) := Decidable.not_not.mp hq3.1
        have hw := hq3.2
        have hpl : (s1 ws : Int) - b = ((s0 ws : Int) - a) * (at_ + 1) := by
          have h1 := Int.mul_ediv_add_emod ((s1 ws : Int) - b) ((s0 ws : Int) - a)
          rw [hz, Int.add_zero] at h1
          rw [← h1]
          congr 1
          omega
        have hb : by2 ws = s0 ws - a := by unfold by2; rw [ea]
        have hbi : ((by2 ws : Nat) : Int) = (s0 ws : Int) - a := by omega
        have hp : ((p : Nat) : Int) = at_ := by omega
        refine ⟨a, b, c, e, by omega, by omega, by rw [← r2]; omega, by omega, ?_, ?_, by rw [← r2]; exact hd⟩
        · have : ((s1 ws : Nat) : Int) = ((b + by2 ws * (p + 1) : Nat) : Int) := by
            rw [Int.natCast_add, Int.natCast_mul, hbi, Int.natCast_add, hp, Int.natCast_one, ← hpl]
            omega
          omega
        · have : ((s2 ws : Nat) : Int) = ((c + by2 ws * ((p + 1) * (p + 1)) : Nat) : Int) := by
            rw [Int.natCast_add, Int.natCast_mul, Int.natCast_mul, hbi, Int.natCast_add, hp, Int.natCast_one, ← Int.mul_assoc, ← hpl, ← hsq]
            omega
          omega
    · cases h
theorem ft_mk {t : List Nat} {a b c p d : Nat} (e : tolds ws = some (a, b, c)) (hp : p < 226) (hd : 1 ≤ d) (hw : w0 ws p + d ≤ 15) (e0 : s0 ws = a + d) (e1 : s1 ws = b + d * (p + 1)) (e2 : s2 ws = c + d * ((p + 1) * (p + 1))) (ht : dec (lifted ws p) = some t) : ft ws = some (t, p) := by
  unfold ft
  rw [e]
  dsimp only
  have i0 : (s0 ws : Int) - a = (d : Int) := by omega
  have i1 : (s1 ws : Int) - b = (d : Int) * ((p : Int) + 1) := by
    have : ((s1 ws : Nat) : Int) = ((b + d * (p + 1) : Nat) : Int) := by rw [e1]
    rw [Int.natCast_add, Int.natCast_mul, Int.natCast_add, Int.natCast_one] at this
    omega
  have i2 : (s2 ws : Int) - c = (d : Int) * ((p : Int) + 1) * ((p : Int) + 1) := by
    have : ((s2 ws : Nat) : Int) = ((c + d * ((p + 1) * (p + 1)) : Nat) : Int) := by rw [e2]
    rw [Int.natCast_add, Int.natCast_mul, Int.natCast_mul, Int.natCast_add, Int.natCast_one, ← Int.mul_assoc] at this
    omega
  have hdiv : (d : Int) * ((p : Int) + 1) / (d : Int) - 1 = (p : Int) := by
    rw [Int.mul_ediv_cancel_left _ (by omega)]
    omega
  have hmod : (d : Int) * ((p : Int) + 1) % (d : Int) = 0 := Int.mul_emod_right ..
  rw [i0, i1, i2, hdiv, hmod, Int.toNat_natCast, ht]
  rw [if_pos ⟨fun z => by rcases z with z | z <;> omega, fun z => by
    rcases z with z | z | z
    · exact z ⟨by omega, by omega⟩
    · exact z rfl
    · omega⟩]
  rfl
/-- what the reader's lifted cell means -/
theorem lift_some {p : Nat} (h : lift2 ws = some p) : ∃ a b, told2 ws = some (a, b) ∧ p < 226 ∧ 1 ≤ by2 ws ∧ w0 ws p + by2 ws ≤ 15 ∧ s0 ws = a + by2 ws := by
  unfold lift2 at h
  split at h
  · cases h
  · next a b e =>
    dsimp only at h
    split at h
    · next q =>
      have ea : a = nums ws 0 := by
        unfold told2 at e
        split at e
        · cases e; rfl
        · cases e
      have hb : by2 ws = s0 ws - a := by unfold by2; rw [ea]
      have h := Option.some.inj h
      rw [h] at q
      generalize (((s1 ws : Int) - b) / ((s0 ws : Int) - a)) - 1 = at_ at *
      obtain ⟨q1, q2, q3, q4⟩ := q
      exact ⟨a, b, e, by omega, by omega, by omega, by omega⟩
    · cases h
theorem lift_mk {a b p d : Nat} (e : told2 ws = some (a, b)) (hp : p < 226) (hd : 1 ≤ d) (hw : w0 ws p + d ≤ 15) (e0 : s0 ws = a + d) (e1 : s1 ws = b + d * (p + 1)) : lift2 ws = some p := by
  unfold lift2
  rw [e]
  dsimp only
  have i0 : (s0 ws : Int) - a = (d : Int) := by omega
  have i1 : (s1 ws : Int) - b = (d : Int) * ((p : Int) + 1) := by
    have : ((s1 ws : Nat) : Int) = ((b + d * (p + 1) : Nat) : Int) := by rw [e1]
    rw [Int.natCast_add, Int.natCast_mul, Int.natCast_add, Int.natCast_one] at this
    omega
  have hdiv : (d : Int) * ((p : Int) + 1) / (d : Int) - 1 = (p : Int) := by
    rw [Int.mul_ediv_cancel_left _ (by omega)]
    omega
  rw [i0, i1, hdiv, Int.toNat_natCast]
  exact if_pos ⟨⟨by omega, by omega⟩, ⟨by omega, by omega⟩, rfl, by omega⟩
variable (ho : Ok ws) (hl : ws.length = 256)
include ho hl
theorem lifted_sum {p : Nat} (f : Nat → Nat) (hp : p < 226) (hw : w0 ws p + by2 ws ≤ 15) : sumW f 0 (ws.take 226) = sumW f 0 ((lifted ws p).take 226) + by2 ws * f p := raise_sum f (by omega) hp hw
theorem lifted_len (p : Nat) : (lifted ws p).length = 256 := by
  unfold lifted
  rw [List.length_set, hl]
theorem lifted_drop {p : Nat} (hp : p < 226) : (lifted ws p).drop 226 = ws.drop 226 := by
  unfold lifted
  rw [List.drop_set_of_lt hp]
/-- mended in the text: the sealed page is this one, but for the lifted cell -/
theorem ft_page {t : List Nat} {p : Nat} (h : ft ws = some (t, p)) : sealT t = lifted ws p := by
  obtain ⟨a, b, c, e, hp, hd, hw, e0, e1, e2, ht⟩ := ft_some h
  have hL := lifted_len ho hl p
  rw [sealT_eq (L := lifted ws p) (raise_ok ho hw) (by rw [hL]; decide) ht]
  have l0 := lifted_sum ho hl f0 hp hw
  have l1 := lifted_sum ho hl f1 hp hw
  have l2 := lifted_sum ho hl f2 hp hw
  have x0 : s0 (lifted ws p) = a := by
    have l0 : s0 ws = s0 (lifted ws p) + by2 ws * 1 := l0
    omega
  have x1 : s1 (lifted ws p) = b := by
    have l1 : s1 ws = s1 (lifted ws p) + by2 ws * (p + 1) := l1
    omega
  have x2 : s2 (lifted ws p) = c := by
    have l2 : s2 ws = s2 (lifted ws p) + by2 ws * ((p + 1) * (p + 1)) := l2
    omega
  rw [x0, x1, x2, ← told_tail hl ho e, ← lifted_drop ho hl hp, List.take_append_drop]
theorem lifted_unl {p : Nat} (hp : p < 226) (hd : 1 ≤ by2 ws) : unl ws (lifted ws p) 0 256 = [p] := unl_one ⟨Nat.zero_le _, by omega⟩ fun q h1 h2 => by
  unfold lifted
  by_cases e : q = p
  · subst e
    rw [w0_set_same (by omega)]
    exact ⟨fun _ => rfl, fun _ => by omega⟩
  · rw [w0_set_ne (fun z => e z.symm)]
    exact ⟨fun z => absurd rfl z, fun z => absurd z e⟩
theorem ft_try {t : List Nat} {p : Nat} (h : ft ws = some (t, p)) : tryH ws ((lift2 ws).bind fun p => dec (lifted ws p)) = some (.tuple [tx nM, tx t, .int p]) := by
  obtain ⟨a, b, c, e, hp, hd, hw, e0, e1, e2, ht⟩ := ft_some h
  rw [lift_mk (told2_of e) hp hd hw e0 e1]
  show tryH ws (dec (lifted ws p)) = _
  rw [ht]
  have hs := ft_page ho hl h
  have hu := lifted_unl ho hl hp hd
  have hne : ¬ sealT t = ws := fun z => by
    have := (unl_mem hu).1.2
    rw [← hs, z] at this
    exact this rfl
  show (if sealT t = ws then _ else _) = _
  rw [if_neg hne, hs, fal_mk hu (by
    unfold lifted
    rw [w0_set_same (by omega)]
    omega)]
  rfl
/-- the plain reading of the page as it is can't be mended, too -/
theorem ft_head {t t1 : List Nat} {p : Nat} (h : ft ws = some (t, p)) (h1 : dec ws = some t1) : fal ws (sealT t1) = none := by
  obtain ⟨a, b, c, e, hp, hd, hw, e0, e1, e2, ht⟩ := ft_some h
  cases q : fal ws (sealT t1) with
  | none => rfl
  | some r =>
    exfalso
    have hu := (unl_mem (fal_some q).1).2
    have hs := sealT_eq ho (by omega) h1
    have hlen : (ws.take 226).length = 226 := by rw [List.length_take]; omega
    have hd0 := told_tail hl ho e
    have cell : ∀ k, w0 (sealT t1) (226 + k) = w0 (tailOf (s0 ws) (s1 ws) (s2 ws)) k := fun k => by
      have e2 := w0_app2 (a := ws.take 226) (b := tailOf (s0 ws) (s1 ws) (s2 ws)) (p := k)
      rw [hlen] at e2
      rw [hs, e2]
    have mine : ∀ k, w0 ws (226 + k) = w0 (tailOf a b c) k := fun k => by rw [← hd0, w0_drop]
    have first : ∀ (x y z k : Nat), k < 3 → w0 (tailOf x y z) k = w0 (digs 3 x) k ∧ w0 (tailOf x y z) (3 + k) = 15 - w0 (digs 3 x) k := fun x y z k hk => by
      have l1 := digs_length 3 x
      have e1 : tailOf x y z = digs 3 x ++ (cmpl (digs 3 x) ++ (tw 5 y ++ tw 7 z)) := by
        unfold tailOf
        rw [show tw 3 x = digs 3 x ++ cmpl (digs 3 x) from rfl, List.append_assoc]
      rw [e1]
      refine ⟨w0_app1 (by omega), ?_⟩
      have e2 := w0_app2 (a := digs 3 x) (b := cmpl (digs 3 x) ++ (tw 5 y ++ tw 7 z)) (p := k)
      rw [l1] at e2
      rw [e2, w0_app1 (by rw [List.length_map, l1]; exact hk)]
      refine w0_of ?_
      rw [List.getElem?_map, w0_get (by omega)]
      rfl
    have same : digs 3 (s0 ws) = digs 3 a := ext_w0 (by rw [digs_length, digs_length]) fun k hk => by
      rw [digs_length] at hk
      refine Decidable.byContradiction fun z => ?_
      have f1 := first (s0 ws) (s1 ws) (s2 ws) k hk
      have f2 := first a b c k hk
      have g1 := w0_lt (digs_ok 3 (s0 ws)) k
      have g2 := w0_lt (digs_ok 3 a) k
      have h1 := hu (226 + k) (by omega) (by omega) (by rw [cell, mine, f1.1, f2.1]; exact fun y => z y.symm)
      have h2 := hu (226 + (3 + k)) (by omega) (by omega) (by rw [cell, mine, f1.2, f2.2]; omega)
      omega
    have e3 := congrArg num same
    rw [num_digs, num_digs, Nat.mod_eq_of_lt (s0_lt ws)] at e3
    have := Nat.mod_le a (16 ^ 3)
    omega
/-- what the reader mends in the text, the program does -/
theorem try_ft {r : PyData} (h : tryH ws ((lift2 ws).bind fun p => dec (lifted ws p)) = some r) : ∃ t p, ft ws = some (t, p) := by
  cases h1 : lift2 ws with
  | none => rw [h1] at h; cases h
  | some p =>
    rw [h1] at h
    have h : tryH ws (dec (lifted ws p)) = some r := h
    obtain ⟨a, b, e, hp, hd, hw, e0⟩ := lift_some h1
    cases h2 : dec (lifted ws p) with
    | none => rw [h2] at h; cases h
    | some t =>
      rw [h2] at h
      have h : (if sealT t = ws then some (PyData.tuple [tx nW, tx t]) else (fal ws (sealT t)).map fun p => .tuple [tx nM, tx t, .int p]) = some r := h
      have hL := lifted_len ho hl p
      have hs := sealT_eq (L := lifted ws p) (raise_ok ho hw) (by rw [hL]; decide) h2
      have hlen : ((lifted ws p).take 226).length = 226 := by rw [List.length_take, hL]; rfl
      have hat : w0 (sealT t) p = w0 ws p + by2 ws := by
        rw [hs, w0_app1 (by omega), w0_take hp]
        unfold lifted
        exact w0_set_same (by omega)
      have hne : ¬ sealT t = ws := fun z => by rw [z] at hat; omega
      rw [if_neg hne] at h
      cases h3 : fal ws (sealT t) with
      | none => rw [h3] at h; cases h
      | some q =>
        have hu := (unl_mem (fal_some h3).1).2
        have hq : p = q := hu p (by omega) (by omega) (by omega)
        subst hq
        have hdrop : ws.drop 226 = tailOf (s0 (lifted ws p)) (s1 (lifted ws p)) (s2 (lifted ws p)) := by
          have hd2 : (sealT t).drop 226 = tailOf (s0 (lifted ws p)) (s1 (lifted ws p)) (s2 (lifted ws p)) := by rw [hs, List.drop_left' hlen]
          rw [← hd2]
          refine ext_w0 ?_ fun k hk => ?_
          · rw [hd2, tailOf_length, List.length_drop, hl]
          · rw [List.length_drop, hl] at hk
            rw [w0_drop, w0_drop]
            refine Decidable.byContradiction fun z => ?_
            have := hu (226 + k) (by omega) (by omega) z
            omega
        have ht := tail_told (s0_lt _) (s1_lt _) (s2_lt _) hdrop
        refine ⟨t, p, ft_mk ht hp hd hw ?_ ?_ ?_ h2⟩
        · have : s0 ws = s0 (lifted ws p) + by2 ws * 1 := lifted_sum ho hl f0 hp hw
          omega
        · exact lifted_sum ho hl f1 hp hw
        · exact lifted_sum ho hl f2 hp hw
theorem fs_fal {t : List Nat} (h : dec ws = some t) : fs ws = (fal ws (sealT t)).map fun p => (t, p) := by
  have hs := sealT_eq ho (by omega) h
  have hlen : (ws.take 226).length = 226 := by rw [List.length_take]; omega
  have e : ws.take 226 = (sealT t).take 226 := by rw [hs, List.take_left' hlen]
  unfold fs fal
  rw [h, unl_tail e]
  dsimp only
  cases q : unl ws (sealT t) 226 30 with
  | nil => rfl
  | cons p r =>
    cases r with
    | cons _ _ => rfl
    | nil =>
      have hne := (unl_mem q).1.2
      dsimp only
      by_cases z : w0 ws p < w0 (sealT t) p
      · rw [if_pos z, if_neg (by omega)]; rfl
      · rw [if_neg z, if_pos (by omega)]; rfl
/-- THE LAW'S CORE -/
theorem po_lo : po ws = lo ws := by
  unfold po lo
  by_cases hE : ws = List.replicate 256 15
  · rw [if_pos hE, if_pos hE]
  · rw [if_neg hE, if_neg hE]
    cases h1 : dec ws with
    | some t1 =>
      by_cases hs : sealT t1 = ws
      · dsimp only
        rw [if_pos (decide_eq_true hs)]
        show _ = match (if sealT t1 = ws then some (PyData.tuple [tx nW, tx t1]) else _) with | some r => r | none => _
        rw [if_pos hs]
        rfl
      · dsimp only
        rw [if_neg (by rw [decide_eq_true_eq]; exact hs)]
        show _ = match (if sealT t1 = ws then _ else (fal ws (sealT t1)).map fun p => PyData.tuple [tx nM, tx t1, .int p]) with | some r => r | none => _
        rw [if_neg hs]
        cases hf : ft ws with
        | some r =>
          obtain ⟨t, p⟩ := r
          rw [ft_head ho hl hf h1, ft_try ho hl hf]
          rfl
        | none =>
          have hn : tryH ws ((lift2 ws).bind fun p => dec (lifted ws p)) = none := by
            cases q : tryH ws ((lift2 ws).bind fun p => dec (lifted ws p)) with
            | none => rfl
            | some r =>
              obtain ⟨t, p, z⟩ := try_ft ho hl q
              rw [hf] at z
              cases z
          rw [hn, fs_fal ho hl h1]
          cases fal ws (sealT t1) <;> rfl
    | none =>
      dsimp only
      rw [if_neg Bool.false_ne_true]
      show _ = match (none : Option PyData) with | some r => r | none => _
      dsimp only
      cases hf : ft ws with
      | some r =>
        obtain ⟨t, p⟩ := r
        rw [ft_try ho hl hf]
      | none =>
        have hn : tryH ws ((lift2 ws).bind fun p => dec (lifted ws p)) = none := by
          cases q : tryH ws ((lift2 ws).bind fun p => dec (lifted ws p)) with
          | none => rfl
          | some r =>
            obtain ⟨t, p, z⟩ := try_ft ho hl q
            rw [hf] at z
            cases z
        have hz : fs ws = none := by unfold fs; rw [h1]
        rw [hn, hz]
end
end W9
namespace W9
open PySem PySem.Spec PyProof.Rows L2
theorem EI.is {X : Cx} {tg e : Expr} {ds : DE} {xs ys : List SD} (h : EI X tg e ds xs) (q : xs = ys) : EI X tg e ds ys := by rw [← q]; exact h
theorem rng_of {x n : Int} (h : (!(decide (0 ≤ x) && decide (x < n))) = false) : 0 ≤ x ∧ x < n := by
  rw [Bool.not_eq_false', Bool.and_eq_true, decide_eq_true_eq, decide_eq_true_eq] at h
  exact h
theorem cut_ok {ws : List Nat} (ho : Ok ws) (lo hi : Option Int) : Ok (cut ws lo hi) := (ho.dp _).tk _
theorem cut_le {α : Type} {l : List α} {lo hi : Option Int} {n : Nat} (h : l.length ≤ n) : (cut l lo hi).length ≤ n := by
  unfold cut
  rw [List.length_take, List.length_drop]
  omega
theorem sd_hexN {X : Cx} {m : MS} {i : Int} (h0 : 0 ≤ i) (h : i < 16) : SubD X m (S hexS) (I i) (C [i.toNat]) := sd_hex (by omega) (by omega)
theorem rep_ok {n w : Nat} (h : w < 16) : Ok (rep n [w]) := by rw [rep_one]; exact Ok.rep h
theorem wk_get {i : Nat} {x : SD} (h : ([PyData.int 3, .int 5, .int 7].map SD.py)[i]? = some x) : i < 3 ∧ x = I (wk i : Nat) := by
  match i, h with
  | 0, h => cases h; exact ⟨by decide, rfl⟩
  | 1, h => cases h; exact ⟨by decide, rfl⟩
  | 2, h => cases h; exact ⟨by decide, rfl⟩
  | i + 3, h => simp at h
theorem atw_le {i : Nat} (h : i < 3) : atw i ≤ 242 ∧ wk i ≤ 7 := by
  match i, h with
  | 0, _ => decide
  | 1, _ => decide
  | 2, _ => decide
def tolP : Option (Nat × Nat × Nat) → PyData
  | none => .none
  | some (a, b, c) => .tuple [.int a, .int b, .int c]
theorem tolds_no {ws : List Nat} {i : Nat} (hi : i < 3) (h : ¬ cnd ws i) : tolds ws = none := if_neg fun ⟨h0, h1, h2⟩ => by
  match i, hi with
  | 0, _ => exact h h0
  | 1, _ => exact h h1
  | 2, _ => exact h h2
theorem tolds_yes {ws : List Nat} (h : ∀ j, j < 3 → cnd ws j) : tolds ws = some (nums ws 0, nums ws 1, nums ws 2) := if_pos ⟨h 0 (by decide), h 1 (by decide), h 2 (by decide)⟩
def ftP : Option (List Nat × Nat) → PyData
  | none => .none
  | some (t, p) => .tuple [tx t, .int p]
section
variable {ws : List Nat} {a b c : Nat}
theorem ft_no0 (e : tolds ws = none) : ft ws = none := by
  unfold ft
  rw [e]
theorem ft_no (e : tolds ws = some (a, b, c)) (h : (s0 ws : Int) - a < 1 ∨ ((s1 ws : Int) - b) % ((s0 ws : Int) - a) ≠ 0) : ft ws = none := by
  unfold ft
  rw [e]
  dsimp only
  exact if_neg fun z => z.1 h
theorem ft_no2 (e : tolds ws = some (a, b, c)) (h : ¬ (0 ≤ ((s1 ws : Int) - b) / ((s0 ws : Int) - a) - 1 ∧ ((s1 ws : Int) - b) / ((s0 ws : Int) - a) - 1 < 226) ∨ (s2 ws : Int) - c ≠ ((s1 ws : Int) - b) * (((s1 ws : Int) - b) / ((s0 ws : Int) - a) - 1 + 1) ∨ w0 ws (((s1 ws : Int) - b) / ((s0 ws : Int) - a) - 1).toNat + ((s0 ws : Int) - a) > 15) : ft ws = none := by
  unfold ft
  rw [e]
  dsimp only
  exact if_neg fun z => z.2 h
theorem ft_yes (e : tolds ws = some (a, b, c)) (h : ¬ ((s0 ws : Int) - a < 1 ∨ ((s1 ws : Int) - b) % ((s0 ws : Int) - a) ≠ 0))
    (h2 : ¬ (¬ (0 ≤ ((s1 ws : Int) - b) / ((s0 ws : Int) - a) - 1 ∧ ((s1 ws : Int) - b) / ((s0 ws : Int) - a) - 1 < 226) ∨ (s2 ws : Int) - c ≠ ((s1 ws : Int) - b) * (((s1 ws : Int) - b) / ((s0 ws : Int) - a) - 1 + 1) ∨ w0 ws (((s1 ws : Int) - b) / ((s0 ws : Int) - a) - 1).toNat + ((s0 ws : Int) - a) > 15)) : ft ws = (dec (lifted ws (((s1 ws : Int) - b) / ((s0 ws : Int) - a) - 1).toNat)).map fun t => (t, (((s1 ws : Int) - b) / ((s0 ws : Int) - a) - 1).toNat) := by
  unfold ft
  rw [e]
  dsimp only
  exact if_pos ⟨h, h2⟩
theorem tolds_a (e : tolds ws = some (a, b, c)) : a = nums ws 0 := by
  unfold tolds at e
  split at e
  · cases e; rfl
  · cases e
end
theorem set_cut {ws : List Nat} {p v : Nat} {i j : Int} (hp : p < ws.length) (h1 : i = (p : Int)) (h2 : j = (p : Int) + 1) : cut ws none (some i) ++ [v] ++ cut ws (some j) none = ws.set p v := by
  have e : j = ((p + 1 : Nat) : Int) := by omega
  subst h1
  rw [e, cut_0n, cut_n0, List.set_eq_take_append_cons_drop, if_pos hp, List.append_assoc]
  rfl
section
variable {X : Cx} {m : MS} {ds : DE} {e c a b tg elt iter : Expr} {es : List Expr} {pos : Pos}
theorem ws_setLcf {α : Type} {j i : Nat} {x y : Str} {tpos py spos : Pos} {scope : Scope} {E : ED} (l : List α) (g : α → SD) (p : α → Bool) (h : α → PyData) (own : List (Str × Nat)) (ho : own.map (·.2) = [j]) (hN : X.N.Nodup) (it : EI X (.Name x tpos) iter ds (l.map g)) (hl : l.length ≤ 1000000)
    (test : ∀ a ∈ l, AllBlk X scope fun Y => ET Y c ((ds.set j none).set j (some (g a))) (p a))
    (turn : ∀ a ∈ l, p a = true → AllBlk X scope fun Y => EE Y elt ((ds.set j none).set j (some (g a))) (.py (h a)))
    (wg : ∀ s H C cl fp d (ds : DE) m (Q : DE → MS → Prop), Q (ds.set j (some d)) m → WG (Blk X scope s H C cl fp) (.Name x tpos) [j] d ds m Q)
    (ok : BlkOk X.N X.env.scope scope own) (q : E.nx (ds.set i (some (Ls ((l.filter p).map h)))) m) (hsw : swapsWith (.ListComp elt [⟨.Name x tpos, iter, [c], 0⟩] scope pos) (some (.Name y py)) spos.line X.env = pure true := by rfl) (hi : X.N[i]? = some y := by rfl) (hyl : X.env.scope.names.lookup y = some .local := by rfl)
    (hc : X.calm = true := by rfl) (hs : ∀ x, foldedSetIterable iter X.env x = pure x := by intro _; rfl) : WS X (.Assign [.Name y py] (.ListComp elt [⟨.Name x tpos, iter, [c], 0⟩] scope pos) spos) ds m E :=
  ws_setLc own hN (it.to ⟨by rw [List.length_map]; exact hl, fun i acc m' => acc = ((l.take i).filter p).map h ∧ m' = m, ⟨rfl, rfl⟩, fun i y acc m' hy _ ⟨e1, e2⟩ => by
    subst e1 e2
    rw [ho]
    obtain ⟨a, q, rfl⟩ := map_get hy
    have hm := List.mem_of_getElem? q
    refine fun s H C cl fp => wg _ _ _ _ _ _ _ _ _ fun s H C cl fp => wts_one ((test a hm s H C cl fp).to ?_)
    cases z : p a with
    | true =>
      rw [if_pos rfl]
      refine fun s H C cl fp => (turn a hm z s H C cl fp).to ⟨_, rfl, ?_, rfl⟩
      rw [List.take_add_one, q, List.filter_append, List.map_append]
      show _ = _ ++ ([a].filter p).map h
      rw [List.filter_cons_of_pos z]
      rfl
    | false =>
      rw [if_neg Bool.false_ne_true]
      refine ⟨?_, rfl⟩
      rw [List.take_add_one, q, List.filter_append, List.map_append]
      show _ = _ ++ ([a].filter p).map h
      rw [List.filter_cons_of_neg (by rw [z]; exact Bool.false_ne_true)]
      simp, fun acc m' _ ⟨e1, e2⟩ => by
    rw [List.length_map, List.take_length] at e1
    subst e1 e2
    exact q⟩) ok hsw hi hyl hc hs
theorem ws_setLcm {α : Type} {j i : Nat} {x y : Str} {tpos py spos : Pos} {scope : Scope} {E : ED} (l : List α) (g : α → SD) (h : α → PyData) (own : List (Str × Nat)) (ho : own.map (·.2) = [j]) (hN : X.N.Nodup) (it : EI X (.Name x tpos) iter ds (l.map g)) (hl : l.length ≤ 1000000)
    (turn : ∀ a ∈ l, AllBlk X scope fun Y => EE Y elt ((ds.set j none).set j (some (g a))) (.py (h a)))
    (wg : ∀ s H C cl fp d (ds : DE) m (Q : DE → MS → Prop), Q (ds.set j (some d)) m → WG (Blk X scope s H C cl fp) (.Name x tpos) [j] d ds m Q)
    (ok : BlkOk X.N X.env.scope scope own) (q : E.nx (ds.set i (some (Ls (l.map h)))) m) (hsw : swapsWith (.ListComp elt [⟨.Name x tpos, iter, [], 0⟩] scope pos) (some (.Name y py)) spos.line X.env = pure true := by rfl) (hi : X.N[i]? = some y := by rfl) (hyl : X.env.scope.names.lookup y = some .local := by rfl)
    (hc : X.calm = true := by rfl) (hs : ∀ x, foldedSetIterable iter X.env x = pure x := by intro _; rfl) : WS X (.Assign [.Name y py] (.ListComp elt [⟨.Name x tpos, iter, [], 0⟩] scope pos) spos) ds m E :=
  ws_setLc own hN (it.to ⟨by rw [List.length_map]; exact hl, fun i acc m' => acc = (l.take i).map h ∧ m' = m, ⟨rfl, rfl⟩, fun i y acc m' hy _ ⟨e1, e2⟩ => by
    subst e1 e2
    rw [ho]
    obtain ⟨a, q, rfl⟩ := map_get hy
    refine fun s H C cl fp => wg _ _ _ _ _ _ _ _ _ fun s H C cl fp => wts_nil ?_
    rw [if_pos rfl]
    refine fun s H C cl fp => (turn a (List.mem_of_getElem? q) s H C cl fp).to ⟨_, rfl, ?_, rfl⟩
    rw [List.take_add_one, q, List.map_append]
    rfl, fun acc m' _ ⟨e1, e2⟩ => by
    rw [List.length_map, List.take_length] at e1
    subst e1 e2
    exact q⟩) ok hsw hi hyl hc hs
theorem tru_ftP {r : Option (List Nat × Nat)} : TruD X (.py (ftP r)) r.isSome := by
  cases r with
  | none => exact tru_non
  | some q => exact tru_tup
end
theorem rng_unl {n lo : Int} (hn : n = 256) (hlo : lo = 226) : ((List.range (n - lo).toNat).map fun (i : Nat) => I (lo + (i : Int))) = ((List.range 30).map (226 + ·)).map fun (a : Nat) => I (a : Int) := by
  subst hn hlo
  rw [List.map_map]
  rfl
end W9
namespace W9
open PySem PySem.Spec PyProof.Rows L2
/-! ### a dict of signs by their numbers -/
def oneK (c : Nat) : Key × V := (Sum.inl (c : Int), V.str ⟨#[c]⟩)
abbrev sgs : List Nat := lowS ++ highS ++ [10]
def kn : List (Key × V) := mergeK [] (sgs.map oneK)
theorem kn_get : ∀ n < 256, valV kn (Sum.inl ((n : Nat) : Int)) = if al n = true then some (V.str ⟨#[n]⟩) else none := by decide +kernel
theorem pairs_kvs {K : PySem.W.Frag} {G : Hp} : ∀ {l : List Nat} {vs : List V}, DpAll K G vs (l.map fun c => PyData.tuple [.int (c : Nat), .str ⟨[c].toArray⟩]) → ∃ ps : List Addr, vs = ps.map V.ref ∧ Paired (fun p (kv : Key × V) => SqT K G p [kV kv.1, kv.2]) ps (l.map oneK)
  | [], _, h => by cases h; exact ⟨[], rfl, .nil⟩
  | c :: l, _, h => by
    cases h with
    | cons h1 h2 =>
      obtain ⟨ps, e1, e2⟩ := pairs_kvs h2
      cases h1 with
      | tup t1 t2 =>
        cases t2 with
        | cons u1 u2 =>
          cases u1
          cases u2 with
          | cons u2 u3 =>
            cases u3
            cases u2
            exact ⟨_ :: ps, by rw [e1]; rfl, .cons t1 e2⟩
theorem paired_mono {K : PySem.W.Frag} {G G' : Hp} (e : Ex G G') : ∀ {ps : List Addr} {kvs : List (Key × V)}, Paired (fun p (kv : Key × V) => SqT K G p [kV kv.1, kv.2]) ps kvs → Paired (fun p (kv : Key × V) => SqT K G' p [kV kv.1, kv.2]) ps kvs
  | _, _, .nil => .nil
  | _, _, .cons h t => .cons (ex_t e h) (paired_mono e t)
section
variable {X : Cx} {m : MS} {ds : DE} {e c a b tg elt iter : Expr} {es : List Expr} {pos p : Pos}
theorem we_dictS {l : List Nat} {x : Str} {P : SD → MS → Prop} (h : EE X e ds (Ls (l.map fun c => PyData.tuple [.int (c : Nat), .str ⟨[c].toArray⟩]))) (k : ∀ p, p ∉ ad m → P (.raw (.ref p)) ((p, .ho (.dK (mergeK [] (l.map oneK)))) :: m))
    (hm : X.mg x = none) (hv : bootBuiltins x = some (.type "dict")) (hc : X.calm = true := by rfl) (hg : Gl X x := by rfl) (hn : x ≠ "__name__" := by decide) (hdb : (x == ("__debug__" : Str)) = false := by decide)
    (he : starEach (e :: []) X.env = (false, eval e X.env) :: starEach [] X.env := by rfl) (hpl : (backTo pos (starEach [] X.env)).any (·.1) = false := by rfl) : WE X (.Call (.Name x p) [e] [] pos) ds m P := fun σ G H E w Q q =>
  oE (pe_callTy (call_dictP hc) hg hm hv (pA [e]) hn hdb he hpl) ((ea_cons h ea_nil he : EA X [e] ds _) m σ G H E w _ fun vs xs m1 G1 H1 g1 r1 ⟨e1, e2⟩ => by
    subst e1 e2
    cases r1 with
    | cons r1 r2 =>
      cases r2
      obtain ⟨f, us, rfl, h1, h2⟩ := ds_lst r1
      obtain ⟨ps, rfl, h3⟩ := pairs_kvs h2
      refine ⟨f, ps, _, rfl, ex_l g1.wd.w h1, paired_mono g1.wd.w h3, fun p hp => ?_⟩
      have g2 := Gr.made (o := .dK (mergeK [] (l.map oneK))) (v := .ho (.dK (mergeK [] (l.map oneK)))) g1.wd hp rfl
      exact q _ _ _ _ _ (g1.trans g2) (.raw _) (k p (List.nodup_cons.mp g2.wd.nd).1))
/-- f(), with what is owned -/
theorem wg_call0 {k : Nat} {f : Addr} {fd : FuncData} {F : FT} {x : Str} {P : SD → MS → Prop} (FO : FnG X.prog X.w X.K X.mg X.base CX0 k f fd [] (SpD X.K F)) (hr : Rm k X.A) (hm : X.mg x = some (.ref f)) (hk : PySem.W.keepIn X.K (.ref f) = true) (hb : Binds X.K fd [] [])
    (h : ∃ fr mc, m = fr ++ mc ∧ F [] mc fun d m2 => P d (fr ++ m2)) (hg : Gl X x := by rfl) (hdb : (x == ("__debug__" : Str)) = false := by decide) : WE X (.Call (.Name x p) [] [] pos) ds m P := fun σ G H E w Q q => by
  intro pins s J
  obtain ⟨fr, mc, rfl, hF⟩ := h
  refine wpAny_Call_Name_kw (ld_glob J hg hm ?_ hdb)
  exact PySem.W.callWith_K0 J.kIn hk (wpAny_call (codeAny_mono (run_fnG (vs := []) (us := []) (Q := Q) FO hr (hb s [] J.kIn rfl) pass0 J .nil ⟨G, mc, [], _, w.sub, .nil, hF, fun v d m' G' H' g2 r2 p => q v d _ G' H' (Gr.frame w g2) r2 p⟩) fun rr s' hq => by
      match rr, hq with
      | .error e, hq => exact hq
      | .ok (.ret u), hq => exact hq
      | .ok .next, hq => exact hq.elim
      | .ok .brk, hq => exact hq.elim
      | .ok .cont, hq => exact hq.elim))
/-- [elt for x in l] that reads what is owned -/
theorem we_lcW {α : Type} {j : Nat} {x : Str} {tpos : Pos} {scope : Scope} {P : SD → MS → Prop} (l : List α) (g : α → SD) (h : α → PyData) (own : List (Str × Nat)) (ho : own.map (·.2) = [j]) (hN : X.N.Nodup) (hi : EI X (.Name x tpos) iter ds (l.map g)) (hl : l.length ≤ 1000000)
    (turn : ∀ a ∈ l, AllBlk X scope fun Y => WE Y elt ((ds.set j none).set j (some (g a))) m fun d m' => d = .py (h a) ∧ m' = m)
    (wg : ∀ s H C cl fp d (ds : DE) m (Q : DE → MS → Prop), Q (ds.set j (some d)) m → WG (Blk X scope s H C cl fp) (.Name x tpos) [j] d ds m Q)
    (ok : BlkOk X.N X.env.scope scope own) (q : P (Ls (l.map h)) m) (hc : X.calm = true := by rfl) (hs : ∀ x, foldedSetIterable iter X.env x = pure x := by intro _; rfl) : WE X (.ListComp elt [⟨.Name x tpos, iter, [], 0⟩] scope pos) ds m P :=
  we_lc own hN (hi.to ⟨by rw [List.length_map]; exact hl, fun i acc m' => acc = (l.take i).map h ∧ m' = m, ⟨rfl, rfl⟩, fun i y acc m' hy _ ⟨e1, e2⟩ => by
    subst e1 e2
    rw [ho]
    obtain ⟨a, q, rfl⟩ := map_get hy
    refine fun s H C cl fp => wg _ _ _ _ _ _ _ _ _ fun s H C cl fp => wts_nil ?_
    rw [if_pos rfl]
    refine fun s H C cl fp => (turn a (List.mem_of_getElem? q) s H C cl fp).mono fun d m4 ⟨e1, e2⟩ => ⟨_, e1, ?_, e2⟩
    rw [List.take_add_one, q, List.map_append]
    rfl, fun acc m' _ ⟨e1, e2⟩ => by
    rw [List.length_map, List.take_length] at e1
    subst e1 e2
    exact q⟩) ok hc hs
theorem md_joinSf {α : Type} {l : List α} {f : α → List Nat} {k : Nat} (hk : ∀ a ∈ l, (f a).length ≤ k) (hz : l.length * k ≤ 1000000) : MtD X "str" "str.join" m (S []) [Ls (l.map fun a => PyData.str ⟨(f a).toArray⟩)] (S (l.map f).flatten) := by
  have z : MtD X "str" "str.join" m (S []) [Ls (txts (l.map f))] (S (joinL [] (l.map f))) := md_join (by
    have e : ((l.map f).map List.length).sum ≤ l.length * k := by
      clear hz
      induction l with
      | nil => exact Nat.zero_le _
      | cons a l ih =>
        rw [List.map_cons, List.map_cons, List.sum_cons, List.length_cons, Nat.succ_mul]
        have h1 := ih fun b hb => hk b (List.mem_cons_of_mem _ hb)
        have h2 := hk a List.mem_cons_self
        omega
    simp only [List.length_nil, Nat.mul_zero, Nat.add_zero]
    omega)
  rw [joinL_nil] at z
  unfold txts at z
  rw [List.map_map] at z
  exact z
end
/-! ### the reader's text -/
abbrev manyN (ws : List Nat) : Nat := ((ps ws).filter (· != 255)).length
abbrev oneL (c : Nat) : List Nat := if al c = true then [c] else []
theorem one_flat (l : List Nat) : (l.map oneL).flatten = l.filter al := by
  induction l with
  | nil => rfl
  | cons c l ih =>
    rw [List.map_cons, List.flatten_cons, ih]
    by_cases h : al c = true
    · rw [List.filter_cons_of_pos h]
      show (if al c = true then [c] else []) ++ _ = _
      rw [if_pos h]
      rfl
    · rw [List.filter_cons_of_neg h]
      show (if al c = true then [c] else []) ++ _ = _
      rw [if_neg h]
      rfl
def decL (ws : List Nat) : Option (List Nat) :=
  let t := ((ps ws).take (manyN ws)).filter al
  if t.length = manyN ws ∧ (ws.take 226).drop (2 * manyN ws) = List.replicate (226 - 2 * manyN ws) 15 then some t else none
theorem decL_dec {ws : List Nat} (ho : Ok ws) (hl : 226 ≤ ws.length) : decL ws = dec ws := by
  have hpl := ps_length hl
  have hm : manyN ws ≤ 113 := by
    have := List.length_filter_le (· != 255) (ps ws)
    show ((ps ws).filter (· != 255)).length ≤ 113
    omega
  unfold decL
  dsimp only
  by_cases h : (((ps ws).take (manyN ws)).filter al).length = manyN ws ∧ (ws.take 226).drop (2 * manyN ws) = List.replicate (226 - 2 * manyN ws) 15
  · rw [if_pos h]
    obtain ⟨h1, h2⟩ := h
    have hall : ((ps ws).take (manyN ws)).filter al = (ps ws).take (manyN ws) := by
      refine List.Sublist.eq_of_length List.filter_sublist ?_
      rw [h1, List.length_take]
      omega
    rw [hall]
    symm
    have hlen : ((ps ws).take (manyN ws)).length = manyN ws := by rw [List.length_take]; omega
    refine dec_of (isT_mk (fun c hc => ?_) ?_)
    · rw [← hall] at hc
      exact (List.mem_filter.mp hc).2
    · rw [hlen]
      conv => lhs; rw [← List.take_append_drop (manyN ws) (ps ws)]
      congr 1
      unfold ps
      rw [pairs_drop, h2]
      have e : 226 - 2 * manyN ws = 2 * (113 - manyN ws) := by omega
      rw [e, ← enc_rep]
      exact pairs_enc fun c hc => by
        have := List.eq_of_mem_replicate hc
        omega
  · rw [if_neg h]
    symm
    refine dec_none fun t ht => h ?_
    have he := isT_eq ht
    have hT := isT_okT ht
    have htl := isT_len hl ht
    have hcount : manyN ws = t.length := by
      show ((ps ws).filter (· != 255)).length = _
      rw [he, List.filter_append]
      have z : (List.replicate (113 - t.length) 255).filter (· != 255) = [] := by
        rw [List.filter_eq_nil_iff]
        intro c hc
        rw [List.eq_of_mem_replicate hc]
        decide
      have z2 : t.filter (· != 255) = t := by
        rw [List.filter_eq_self]
        exact fun c hc => al_ne (hT c hc)
      rw [z, z2, List.append_nil]
    have htake : (ps ws).take (manyN ws) = t := by rw [he, hcount, List.take_left' rfl]
    refine ⟨?_, ?_⟩
    · rw [htake, hcount]
      congr 1
      rw [List.filter_eq_self]
      exact hT
    · rw [hcount, ← (isT_cells ho hl hT htl).mp ht]
      unfold cellsOf
      rw [← enc_length t, List.drop_left' rfl]
/-! ### the reader's answers -/
def t2P : Option (Nat × Nat) → PyData
  | none => .none
  | some (a, b) => .list [.int a, .int b]
def falP : Option Nat → PyData
  | none => .none
  | some p => .int p
end W9
namespace W9
open PySem PySem.Spec PyProof.Rows L2
theorem hex_nums {ws : List Nat} (hl : 226 ≤ ws.length) : ((List.range 113).map fun (a : Nat) => PyData.int ((num (cut ws (some (0 + (a : Int) * 2)) (some (0 + (a : Int) * 2 + 2))) : Nat) : Int)) = (ps ws).map fun (n : Nat) => PyData.int (n : Int) := by
  refine List.ext_getElem? fun i => ?_
  rw [List.getElem?_map, List.getElem?_map]
  by_cases hi : i < 113
  · have e : (ps ws)[i]? = some (num ((ws.drop (2 * i)).take 2)) := by
      unfold ps
      rw [pairs_get (by rw [List.length_take]; omega), List.drop_take, List.take_take, Nat.min_eq_left (by omega)]
    rw [List.getElem?_range hi, e]
    have e2 : cut ws (some (0 + (i : Int) * 2)) (some (0 + (i : Int) * 2 + 2)) = (ws.drop (2 * i)).take 2 := (cut_nat (a := 2 * i) (b := 2 * i + 2) ws (by omega) (by omega)).trans (by rw [Nat.add_sub_cancel_left])
    show some (PyData.int ((num (cut ws (some (0 + (i : Int) * 2)) (some (0 + (i : Int) * 2 + 2))) : Nat) : Int)) = _
    rw [e2]
    rfl
  · rw [List.getElem?_eq_none (by rw [List.length_range]; omega), List.getElem?_eq_none (by rw [ps_length hl]; omega)]
    rfl
theorem int_ne255 {n : Nat} : (!decide (((n : Nat) : Int) = 255)) = (n != 255) := by
  by_cases h : n = 255
  · subst h; decide
  · have h2 : ¬ ((n : Int) = 255) := by omega
    rw [decide_eq_false h2]
    simp [h]
theorem wk_get2 {i : Nat} {x : SD} (h : ([PyData.tuple [.int 226, .int 3], .tuple [.int 232, .int 5]].map SD.py)[i]? = some x) : i < 2 ∧ x = Tp [.int (atw i : Nat), .int (wk i : Nat)] := by
  match i, h with
  | 0, h => cases h; exact ⟨by decide, rfl⟩
  | 1, h => cases h; exact ⟨by decide, rfl⟩
  | i + 2, h => simp at h
theorem told2_no {ws : List Nat} {i : Nat} (hi : i < 2) (h : ¬ cnd ws i) : told2 ws = none := if_neg fun ⟨h0, h1⟩ => by
  match i, hi with
  | 0, _ => exact h h0
  | 1, _ => exact h h1
theorem told2_yes {ws : List Nat} (h : ∀ j, j < 2 → cnd ws j) : told2 ws = some (nums ws 0, nums ws 1) := if_pos ⟨h 0 (by decide), h 1 (by decide)⟩
theorem told2_a {ws : List Nat} {a b : Nat} (e : told2 ws = some (a, b)) : a = nums ws 0 := by
  unfold told2 at e
  split at e
  · cases e; rfl
  · cases e
section
variable {ws : List Nat} {a b : Nat}
theorem lift_no0 (e : told2 ws = none) : lift2 ws = none := by
  unfold lift2
  rw [e]
theorem lift_no (e : told2 ws = some (a, b)) (h : ¬ (1 ≤ (s0 ws : Int) - a ∧ (s0 ws : Int) - a ≤ 15)) : lift2 ws = none := by
  unfold lift2
  rw [e]
  dsimp only
  exact if_neg fun z => h z.1
theorem lift_no2 (e : told2 ws = some (a, b)) (h : ¬ (0 ≤ ((s1 ws : Int) - b) / ((s0 ws : Int) - a) - 1 ∧ ((s1 ws : Int) - b) / ((s0 ws : Int) - a) - 1 < 226) ∨ (s1 ws : Int) - b ≠ ((s0 ws : Int) - a) * (((s1 ws : Int) - b) / ((s0 ws : Int) - a) - 1 + 1) ∨ w0 ws (((s1 ws : Int) - b) / ((s0 ws : Int) - a) - 1).toNat + ((s0 ws : Int) - a) > 15) : lift2 ws = none := by
  unfold lift2
  rw [e]
  dsimp only
  exact if_neg fun z => by
    rcases h with h | h | h
    · exact h z.2.1
    · exact h z.2.2.1
    · have := z.2.2.2; omega
theorem lift_yes (e : told2 ws = some (a, b)) (h : 1 ≤ (s0 ws : Int) - a ∧ (s0 ws : Int) - a ≤ 15) (h1 : 0 ≤ ((s1 ws : Int) - b) / ((s0 ws : Int) - a) - 1 ∧ ((s1 ws : Int) - b) / ((s0 ws : Int) - a) - 1 < 226) (h2 : (s1 ws : Int) - b = ((s0 ws : Int) - a) * (((s1 ws : Int) - b) / ((s0 ws : Int) - a) - 1 + 1))
    (h3 : w0 ws (((s1 ws : Int) - b) / ((s0 ws : Int) - a) - 1).toNat + ((s0 ws : Int) - a) ≤ 15) : lift2 ws = some (((s1 ws : Int) - b) / ((s0 ws : Int) - a) - 1).toNat := by
  unfold lift2
  rw [e]
  dsimp only
  exact if_pos ⟨h, h1, h2, h3⟩
end
def lifP (ws : List Nat) : PyData := match lift2 ws with
  | none => .none
  | some p => .str ⟨((lifted ws p).map dig).toArray⟩
theorem dig_ltS {a b : Nat} (ha : a < 16) (hb : b < 16) : decide ([dig a] < [dig b]) = decide (a < b) := by
  refine decide_eq_decide.mpr ?_
  rw [List.cons_lt_cons_iff, dig_lt ha hb]
  constructor
  · rintro (h | ⟨_, h⟩)
    · exact h
    · cases h
  · exact Or.inl
theorem cd_ltC {X : Cx} {a b : Nat} (ha : a < 16) (hb : b < 16) : CmpD X .Lt (C [a]) (C [b]) (decide (a < b)) := by
  have z : CmpD X .Lt (S [dig a]) (S [dig b]) (decide ([dig a] < [dig b])) := cd_ltS
  rw [dig_ltS ha hb] at z
  exact z
theorem dec_take (ws : List Nat) : dec (ws.take 226) = dec ws := by
  have e : ∀ t, isT (ws.take 226) t = isT ws t := fun t => by
    unfold isT ps
    rw [List.take_take, Nat.min_self]
  unfold dec
  unfold ps
  rw [List.take_take, Nat.min_self]
  dsimp only
  rw [e]
end W9
namespace W9
open PySem PySem.Spec PyProof.Rows L2
/-! ### reading what is owned: as if it were plain data, for scalars -/
def del (G : Hp) (p : Addr) : Hp := fun a => if a = p then none else G a
theorem del_same {G : Hp} {p : Addr} : del G p p = none := if_pos rfl
theorem del_ne {G : Hp} {p a : Addr} (h : a ≠ p) : del G p a = G a := if_neg h
section
variable {K : PySem.W.Frag} {m : MS} {G H G' H' : Hp} {p : Addr} {v : OV} {o : HO}
theorem Gr.view (w : Wd K m G H) (hp : (p, v) ∈ m) (ho : H p = some o) (g : Gr K [] [] (upd G p o) H G' H') : Gr K m m G H (del G' p) H' := by
  have gp : G p = none := (w.own _ hp).1
  have ex : Ex G (del G' p) := fun a u e => by
    have ne : a ≠ p := fun z => by rw [z, gp] at e; cases e
    rw [del_ne ne]
    exact g.g a u (by rw [upd_ne ne]; exact e)
  have keep : ∀ a u, H a = some u → H' a = some u := fun a u e => g.h a u (fun z => nomatch z) e
  have gone : ∀ a, G a = none → H a ≠ none → del G' p a = none := fun a e f => by
    by_cases ne : a = p
    · rw [ne]; exact del_same
    · rw [del_ne ne]
      exact g.fr a (fun z => nomatch z) (by rw [upd_ne ne]; exact e) f
  refine ⟨ex, fun a u _ e => keep a u e, g.th, fun a _ e f => gone a e f, fun q hq => .inl (mem_ad hq), ⟨fun a u e => ?_, fun q hq => ?_, w.nd⟩⟩
  · have ne : a ≠ p := fun z => by rw [z, del_same] at e; cases e
    rw [del_ne ne] at e
    exact g.wd.w a u e
  · obtain ⟨h1, u, h2, h3⟩ := w.own q hq
    exact ⟨gone _ h1 (nn h2), u, keep _ _ h2, ov_mono ex h3⟩
theorem Wd.view (w : Wd K m G H) (hp : (p, v) ∈ m) (ho : H p = some o) : Wd K [] (upd G p o) H := by
  refine ⟨fun a u e => ?_, fun q hq => (nomatch hq), List.nodup_nil⟩
  by_cases z : a = p
  · subst z; rw [upd_same] at e; cases e; exact ho
  · rw [upd_ne z] at e; exact w.w a u e
end
def Scal (d : PyData) : Prop := ∀ (K : PySem.W.Frag) (G G' : Hp) (v : V), Dp K G v d → Dp K G' v d
theorem sc_int {i : Int} : Scal (.int i) := fun K G G' v h => by cases h; exact .int i
theorem sc_bl {i : Bool} : Scal (.bool i) := fun K G G' v h => by cases h; exact .bl i
theorem sc_str {i : Str} : Scal (.str i) := fun K G G' v h => by cases h; exact .str i
section
variable {X : Cx} {m : MS} {ds : DE} {e c a b tg elt iter : Expr} {es : List Expr} {pos : Pos}
theorem we_view {i : Nat} {p : Addr} {l : List PyData} {d : PyData} {P : SD → MS → Prop} (hd : ds[i]? = some (some (.raw (.ref p)))) (hm : (p, OV.dl l) ∈ m) (h : EE X e (ds.set i (some (Ls l))) (.py d)) (sc : Scal d) (k : P (.py d) m) : WE X e ds m P := fun σ G H E w Q q => by
  obtain ⟨vs, h1, h2⟩ := own_get w hm
  obtain ⟨v, hv, hr⟩ := E.2 i _ hd
  cases ds_raw hr
  have exG : Ex G (upd G p (.lst vs)) := Ex.new (w.own _ hm).1
  have e1 : EnvD X.K (upd G p (.lst vs)) σ (ds.set i (some (Ls l))) := (E.mono exG).retype hv (.py (.lst (SqL.of upd_same) (dpa_mono exG h2)))
  exact h [] σ (upd G p (.lst vs)) H e1 (w.view hm h1) Q fun u d' m' G' H' g r ⟨z1, z2⟩ => by
    subst z1 z2
    refine q u _ m _ H' (Gr.view w hm h1 g) ?_ k
    cases r with
    | py r => exact .py (sc _ _ _ _ r)
theorem wt_view {i : Nat} {p : Addr} {l : List PyData} {k : Bool} {P : Bool → MS → Prop} (hd : ds[i]? = some (some (.raw (.ref p)))) (hm : (p, OV.dl l) ∈ m) (h : ET X e (ds.set i (some (Ls l))) k) (hk : P k m) : WT X e ds m P := fun σ G H E w Q q => by
  obtain ⟨vs, h1, h2⟩ := own_get w hm
  obtain ⟨v, hv, hr⟩ := E.2 i _ hd
  cases ds_raw hr
  have exG : Ex G (upd G p (.lst vs)) := Ex.new (w.own _ hm).1
  have e1 : EnvD X.K (upd G p (.lst vs)) σ (ds.set i (some (Ls l))) := (E.mono exG).retype hv (.py (.lst (SqL.of upd_same) (dpa_mono exG h2)))
  exact h [] σ (upd G p (.lst vs)) H e1 (w.view hm h1) Q fun b m' G' H' g ⟨z1, z2⟩ => by
    subst z1 z2
    exact q _ m _ H' (Gr.view w hm h1 g) hk
/-- p[j] = e, p owned at the head -/
theorem ws_storeV {o ix : Expr} {tpos : Pos} {i : Nat} {p : Addr} {l : List PyData} {j : Int} {d : PyData} {E : ED} (hpf : p ∉ ad m) (hd : ds[i]? = some (some (.raw (.ref p)))) (ho : EE X o ds (.raw (.ref p))) (hi : EE X ix ds (PySem.PyData.int j |> SD.py))
    (h : EE X e (ds.set i (some (Ls l))) (.py d)) (sc : Scal d) (h0 : 0 ≤ j) (hj : j < l.length) (q : E.nx ds ((p, .dl (l.set j.toNat d)) :: m))
    (ha : ∀ v, assign (.Subscript o ix tpos) X.env v = (do
      let ov ← holding [v] (eval o X.env)
      let iv ← holding [v, ov] (eval ix X.env)
      standAt tpos
      holding [v, ov, iv] (setItem ov iv v)
      release [v, ov, iv] []) := by intro _; rfl) (hs : swapsWithSole [.Subscript o ix tpos] e pos.line X.env = pure false := by rfl) (hw : swappedStores [.Subscript o ix tpos] e X.env = pure none := by rfl)
    (h1 : (assignEach [.Subscript o ix tpos] X.env).map (·.2) = [assign (.Subscript o ix tpos) X.env] := by rfl) : WS X (.Assign [.Subscript o ix tpos] e pos) ds ((p, .dl l) :: m) E :=
  ws_store ho hi (we_view hd List.mem_cons_self h sc ⟨d, l, rfl, List.mem_cons_self, h0, hj, by rw [mset_head hpf]; exact q⟩) ha hs hw h1
/-! ### list(range(n)) -/
theorem ee_listRg {n : Int} {p q : Pos} (h : EE X a ds (I n)) (hn : 0 ≤ n ∧ n ≤ 1000000) (hm : X.mg "list" = none) (hm2 : X.mg "range" = none) (hg : Gl X "list" := by rfl) (hg2 : Gl X "range" := by rfl) (hc : X.calm = true := by rfl)
    (na : starEach [a] X.env = (false, eval a X.env) :: starEach [] X.env := by rfl) (na2 : starEach [.Call (.Name "range" q) [a] [] p] X.env = (false, eval (.Call (.Name "range" q) [a] [] p) X.env) :: starEach [] X.env := by rfl) {p2 p3 : Pos} :
    EE X (.Call (.Name "list" p2) [.Call (.Name "range" q) [a] [] p] [] p3) ds (Ls ((List.range n.toNat).map fun (i : Nat) => PyData.int (i : Int))) := fun m σ G H E w Q k => oE (pe_listRg hc hg hm (prg_1 hg2 hm2 (pE a) na) na2) (h m σ G H E w _ fun v d m1 G1 H1 g1 r1 ⟨e1, e2⟩ => by
  subst e1 e2
  cases ds_int r1
  refine ⟨n, rfl, .of_le (by decide) (by omega) (by decide) hn.1, fun p hp => ?_⟩
  have g2 := Gr.new (o := .lst (rgV 0 n)) g1.wd hp
  have e : rgV 0 n = ((List.range n.toNat).map fun (i : Nat) => (i : Int)).map V.int := by
    unfold rgV
    rw [Int.sub_zero, List.map_map]
    exact List.map_congr_left fun i _ => by show V.int (0 + (i : Int)) = V.int (i : Int); rw [Int.zero_add]
  have e2 : ((List.range n.toNat).map fun (i : Nat) => PyData.int (i : Int)) = ((List.range n.toNat).map fun (i : Nat) => (i : Int)).map PyData.int := by
    rw [List.map_map]
    rfl
  rw [e] at g2 ⊢
  rw [e2] at k
  exact k _ _ _ _ _ (g1.trans g2) (.py (.lst (SqL.of upd_same) (dpa_of_ints _))) ⟨rfl, rfl⟩)
/-! ### comprehensions that change what is owned -/
theorem we_lcI {j : Nat} {x : Str} {tpos : Pos} {scope : Scope} {P : SD → MS → Prop} (Iv : Nat → List PyData → MS → Prop) (own : List (Str × Nat)) (ho : own.map (·.2) = [j]) (hN : X.N.Nodup)
    (h : WI X (.Name x tpos) iter ds m fun xs m1 => xs.length ≤ 1000000 ∧ Iv 0 [] m1 ∧
      (∀ i y acc m', xs[i]? = some y → acc.length ≤ i → Iv i acc m' → AllBlk X scope fun Y => WE Y elt ((ds.set j none).set j (some y)) m' fun d m4 => ∃ d', d = .py d' ∧ Iv (i + 1) (acc ++ [d']) m4) ∧ ∀ acc m', acc.length ≤ xs.length → Iv xs.length acc m' → P (Ls acc) m')
    (wg : ∀ s H C cl fp d (ds : DE) m (Q : DE → MS → Prop), Q (ds.set j (some d)) m → WG (Blk X scope s H C cl fp) (.Name x tpos) [j] d ds m Q)
    (ok : BlkOk X.N X.env.scope scope own) (hc : X.calm = true := by rfl) (hs : ∀ x, foldedSetIterable iter X.env x = pure x := by intro _; rfl) : WE X (.ListComp elt [⟨.Name x tpos, iter, [], 0⟩] scope pos) ds m P :=
  we_lc own hN (fun σ G H E w R' q => h σ G H E w R' fun J xs m' G' H' g it ⟨h1, h2, h3, h4⟩ => q J xs m' G' H' g it ⟨h1, Iv, h2, fun i y acc m' hy hl iv => by
    rw [ho]
    refine fun s H C cl fp => wg _ _ _ _ _ _ _ _ _ fun s H C cl fp => wts_nil ?_
    rw [if_pos rfl]
    exact h3 i y acc m' hy hl iv, h4⟩) ok hc hs
theorem sd_ints {l : List Int} {i : Int} (h0 : 0 ≤ i) (h : i < l.length) : SubD X m (Ls (l.map .int)) (I i) (I (l.getD i.toNat 0)) := sd_lst (at_nn h0 (by
  have hi : i.toNat < l.length := by omega
  rw [List.getElem?_map, List.getElem?_eq_getElem hi]
  simp [List.getD, hi]))
/-! ### repr of small data -/
structure Rep (d : PyData) : Prop where
  dp : d.depth ≤ 50
  sh : d.showable = true
  nd : d.hasDict = false
  lv : d.leavesShort 13 = true
  bk : d.bulk ≤ 2 ^ 20
theorem ee_reprR {d : PyData} {p : Pos} (h : EE X e ds (.py d)) (hr : Rm 0 X.A) (r : Rep d) (hm : X.mg "repr" = none) (hg : Gl X "repr" := by rfl) (he : starEach (e :: []) X.env = (false, eval e X.env) :: starEach [] X.env := by rfl) (hpl : (backTo pos (starEach [] X.env)).any (·.1) = false := by rfl) :
    EE X (.Call (.Name "repr" p) [e] [] pos) ds (.py (.str d.shown)) := ee_repr h hr r.dp r.sh r.nd (PyData.shown_fits_bulk (B := 13) (by decide) (by decide) r.lv r.bk) hm hg he hpl
end
theorem log_small {i : Nat} (h : i < 2 ^ 60) : i.log2 < 1920 := by
  by_cases z : i = 0
  · subst z; decide
  · have := (Nat.log2_lt z).mpr h
    omega
theorem rep_int3 {a b c : Nat} (ha : a < 10 ^ 11) (hb : b < 10 ^ 11) (hc : c < 10 ^ 11) : Rep (.tuple [.int a, .int b, .int c]) := by
  have p : ∀ x : Nat, x < 10 ^ 11 → ((x : Int).natAbs.log2 < 1920) ∧ (PyData.shown (.int (x : Int))).length ≤ 13 := fun x hx => ⟨log_small (by omega), PyData.shown_int_le (by omega)⟩
  refine ⟨by simp [PyData.depth, PyData.depthAll], ?_, by simp [PyData.hasDict, PyData.hasDictAll], ?_, by simp [PyData.bulk, PyData.bulkAll]⟩
  · simp only [PyData.showable, PyData.showableAll, Bool.and_eq_true, decide_eq_true_eq, and_true]
    exact ⟨(p a ha).1, (p b hb).1, (p c hc).1⟩
  · simp only [PyData.leavesShort, PyData.leavesShortAll, Bool.and_eq_true, decide_eq_true_eq, and_true]
    exact ⟨(p a ha).2, (p b hb).2, (p c hc).2⟩
def SmallT (t : List Nat) : Prop := t.length ≤ 1000 ∧ ∀ c ∈ t, c < 16 ^ 8
theorem rep_w1 {t : List Nat} (h : SmallT t) : Rep (.tuple [tx t]) := by
  refine ⟨by simp [PyData.depth, PyData.depthAll], by simp [PyData.showable, PyData.showableAll], by simp [PyData.hasDict, PyData.hasDictAll], ?_, ?_⟩
  · simp only [PyData.leavesShort, PyData.leavesShortAll, Bool.and_true]
    simpa [List.all_eq_true] using h.2
  · have := h.1
    simp only [PyData.bulk, PyData.bulkAll, List.size_toArray]
    omega
theorem rep_w2 {t u : List Nat} (h : SmallT t) (hu : SmallT u) : Rep (.tuple [tx t, tx u]) := by
  refine ⟨by simp [PyData.depth, PyData.depthAll], by simp [PyData.showable, PyData.showableAll], by simp [PyData.hasDict, PyData.hasDictAll], ?_, ?_⟩
  · simp only [PyData.leavesShort, PyData.leavesShortAll, Bool.and_true, Bool.and_eq_true]
    exact ⟨by simpa [List.all_eq_true] using h.2, by simpa [List.all_eq_true] using hu.2⟩
  · have := h.1
    have := hu.1
    simp only [PyData.bulk, PyData.bulkAll, List.size_toArray]
    omega
theorem rep_w3 {t u : List Nat} {p : Nat} (h : SmallT t) (hu : SmallT u) (hp : p < 10 ^ 11) : Rep (.tuple [tx t, tx u, .int p]) := by
  refine ⟨by simp [PyData.depth, PyData.depthAll], ?_, by simp [PyData.hasDict, PyData.hasDictAll], ?_, ?_⟩
  · simp only [PyData.showable, PyData.showableAll, Bool.and_eq_true, decide_eq_true_eq, and_true, true_and]
    exact log_small (by omega)
  · simp only [PyData.leavesShort, PyData.leavesShortAll, Bool.and_true, Bool.and_eq_true, decide_eq_true_eq]
    exact ⟨by simpa [List.all_eq_true] using h.2, by simpa [List.all_eq_true] using hu.2, PyData.shown_int_le (by omega)⟩
  · have := h.1
    have := hu.1
    simp only [PyData.bulk, PyData.bulkAll, List.size_toArray]
    omega
theorem small_okT {t : List Nat} (h : OkT t) (hl : t.length ≤ 113) : SmallT t := ⟨by omega, fun c hc => by have := al_lt (h c hc); omega⟩
theorem rep_lo {ws : List Nat} (ho : Ok ws) (hl : ws.length = 256) : Rep (lo ws) := by
  have sE : SmallT nE := ⟨by decide, by decide⟩
  have sW : SmallT nW := ⟨by decide, by decide⟩
  have sM : SmallT nM := ⟨by decide, by decide⟩
  have sT : SmallT nT := ⟨by decide, by decide⟩
  rw [← po_lo ho hl]
  unfold po
  by_cases hE : ws = List.replicate 256 15
  · rw [if_pos hE]
    exact rep_w1 sE
  · rw [if_neg hE]
    have second : Rep (match (match ft ws with | some r => some r | none => fs ws) with | none => .tuple [tx nT] | some (t, p) => .tuple [tx nM, tx t, .int p]) := by
      rcases hf : ft ws with _ | ⟨t, p⟩
      · rcases hs : fs ws with _ | ⟨t, p⟩
        · exact rep_w1 sT
        · unfold fs at hs
          rcases hd : dec ws with _ | t1
          · rw [hd] at hs; cases hs
          · rw [hd] at hs
            dsimp only at hs
            rcases hq : unl ws (sealT t1) 226 30 with _ | ⟨q, _ | ⟨q2, r⟩⟩
            · rw [hq] at hs; cases hs
            · rw [hq] at hs
              dsimp only at hs
              split at hs
              · cases hs
              · cases hs
                have := (unl_mem hq).1.1
                exact rep_w3 sM (small_okT (dec_okT hd) (dec_len (by omega) hd)) (by omega)
            · rw [hq] at hs; cases hs
      · obtain ⟨a, b, c, _, hp, _, hw, _, _, _, ht⟩ := ft_some hf
        have hL := lifted_len ho hl p
        exact rep_w3 sM (small_okT (dec_okT ht) (dec_len (by omega) ht)) (by omega)
    rcases hd : dec ws with _ | t
    · dsimp only
      rw [if_neg Bool.false_ne_true]
      exact second
    · dsimp only
      by_cases hs : sealT t = ws
      · rw [if_pos (decide_eq_true hs)]
        exact rep_w2 sW (small_okT (dec_okT hd) (dec_len (by omega) hd))
      · rw [if_neg (by rw [decide_eq_true_eq]; exact hs)]
        exact second
end W9
namespace W9
open PySem PySem.Spec PyProof.Rows L2
/-! ### the drawing hand -/
abbrev Pt (p : Addr) (a b c : Int) : Addr × OV := (p, .dl [.int a, .int b, .int c])
def PB (b : Int) : Prop := 0 ≤ b ∧ b < 2305843009213693921
section
variable {X : Cx} {m : MS} {ds : DE} {e c a b tg elt iter : Expr} {es : List Expr} {pos : Pos}
theorem bd_mulB {i : Int} {b : Bool} : BinD X .Mult (I i) (I (if b = true then 1 else 0)) (I (i * (if b = true then 1 else 0))) := bd_mul (.inr (by cases b <;> decide))
theorem WE.drop {P : SD → MS → Prop} (h : WE X e ds m fun d m1 => ∃ q m2, m1 = q :: m2 ∧ P d m2) : WE X e ds m P := fun σ G H E w Q k => h σ G H E w Q fun v d m1 G1 H1 g r ⟨q, m2, e1, p⟩ => by
  subst e1
  obtain ⟨qa, qv⟩ := q
  have g2 := Gr.drop g.wd
  exact k v d m2 G1 H1 (g.trans g2) r p
end
theorem ca_allT {X : Cx} {m : MS} {n : Nat} (hc : X.calm = true := by rfl) : CaD X (.builtin "all") m [Ls (List.replicate n (PyData.bool true))] (B true) := by
  have z : CaD X (.builtin "all") m [Ls ((List.replicate n true).map .bool)] (B ((List.replicate n true).all id)) := ca_all hc
  rw [List.map_replicate] at z
  have e : (List.replicate n true).all id = true := by
    rw [List.all_eq_true]
    intro x hx
    rw [List.eq_of_mem_replicate hx]
    rfl
  rw [e] at z
  exact z
abbrev prs : List Int := [2147483647, 2147483629, 2147483587, 2147483579, 2147483563]
theorem prs_pos (c : Int) : 0 < prs.getD (c % 5).toNat 0 ∧ prs.getD (c % 5).toNat 0 < 2147483648 := by
  have h : ∀ i, i < 5 → 0 < prs.getD i 0 ∧ prs.getD i 0 < 2147483648 := by decide
  exact h _ (by omega)
theorem sq_le {k c : Int} (hk : 0 ≤ k ∧ k ≤ 1000000) (hc : 0 ≤ c ∧ c ≤ 200000) : 0 ≤ k * c * c ∧ k * c * c ≤ 40000000000000000 := by
  have h1 : 0 ≤ k * c := Int.mul_nonneg hk.1 hc.1
  have h2 : k * c ≤ 1000000 * 200000 := Int.mul_le_mul hk.2 hc.2 hc.1 (by decide)
  have h3 : k * c * c ≤ (1000000 * 200000) * 200000 := Int.mul_le_mul h2 hc.2 hc.1 (by decide)
  have h4 := Int.mul_nonneg h1 hc.1
  omega
abbrev sgn (c : Nat) : PyData := .str ⟨[c].toArray⟩
theorem hex_sgn {d : PyData} (h : d ∈ hexS.map sgn) : ∃ w, w < 16 ∧ d = .str ⟨([w].map dig).toArray⟩ := by
  have e : hexS.map sgn = (List.range 16).map fun w => PyData.str ⟨([w].map dig).toArray⟩ := rfl
  rw [e] at h
  obtain ⟨w, hw, rfl⟩ := List.mem_map.mp h
  exact ⟨w, List.mem_range.mp hw, rfl⟩
end W9
/-! sorted(set(texts)) -/
namespace W9
open PySem PySem.Spec PyProof.Rows L2

section
variable {P : Program} {w : World} {A : Around} {E : Value → Shared → Prop} {s : Shared}
/-- the texts l, no one twice, lie as a set at a -/
def Bag (P : Program) (w : World) (a : Addr) (l : List Str) (h : Heap) : Prop :=
  ∃ D : PySem.Froz.SD, h.get? a = some (PySem.Froz.sObj "set" D) ∧ PySem.Froz.TxOk P w D l ∧ Ris D.2.2.place.toList ∧ (w.params.followText "set-order" = true ∨ D.2.2.led = true) ∧ l.Nodup
theorem Bag.keep {a : Addr} {l : List Str} {h h' : Heap} (b : Bag P w a l h) (k : ∀ o, h.get? a = some o → h'.get? a = some o) : Bag P w a l h' :=
  let ⟨D, h1, rest⟩ := b
  ⟨D, k _ h1, rest⟩
theorem tail_ris {ep : Nat} {es : Array (Int × Value)} {t : SetTable} {d : Bool} (h : Ris t.place.toList) : Ris (PySem.Froz.tailTx ep es t d).2.2.place.toList := by
  unfold PySem.Froz.tailTx
  split
  · exact relayAll_ris ..
  · exact h
theorem tail_led {ep : Nat} {es : Array (Int × Value)} {t : SetTable} {d : Bool} : (PySem.Froz.tailTx ep es t d).2.2.led = t.led := by
  unfold PySem.Froz.tailTx
  split
  · exact relayAll_led ..
  · rfl
theorem more_ris {D : PySem.Froz.SD} {hs : Int} {v : Value} (h : Ris D.2.2.place.toList) : Ris (PySem.Froz.addTx hs v D).2.2.place.toList := by
  refine tail_ris ?_
  have q := layNew_ris D.2.2 D.1 hs v h
  split
  · exact q
  · exact q
theorem more_led {D : PySem.Froz.SD} {hs : Int} {v : Value} : (PySem.Froz.addTx hs v D).2.2.led = D.2.2.led := by
  refine tail_led.trans ?_
  have q := layNew_led D.2.2 D.1 hs v
  split
  · exact q
  · exact q
/-- one text more, or there already -/
theorem bag_add {a : Addr} {l : List Str} {k : Str} {u : Tok} {Q : Bool → Shared → Prop} (b : Bag P w a l s.heap) (hb : l.length + 1 < scanBound)
    (hQ : ∀ r h' l', Heap.SameBut a s.heap h' → Bag P w a l' h' → l'.length ≤ l.length + 1 → (∀ z, z ∈ l' ↔ z = k ∨ z ∈ l) → Q r { s with heap := h' }) :
    wpAny (model P w) A (setAddHashed a (.str k u) (hashStr w k)) Q E s := by
  obtain ⟨D, h1, F, h3, h4, h5⟩ := b
  by_cases hk : k ∈ l
  · obtain ⟨es, ep, t⟩ := D
    have hd : (PySem.Froz.sObj "set" (es, ep, t)).data = .set es ep t := rfl
    have fit : t.fits es.size = true := F.fit
    have el : ElemsOf (strKind P w) es.toList := F.el
    have sz : es.size = l.length := F.sz
    have key := PySem.Froz.is_str (P := P) (w := w) k u
    obtain ⟨x, x1, x2⟩ := (F.mem k).mp hk
    have fnd : ∃ j, List.findIdx? (fun e => (strKind P w).is k e.2) es.toList = some j := by
      cases q : List.findIdx? (fun e => (strKind P w).is k e.2) es.toList with
      | some j => exact ⟨j, rfl⟩
      | none =>
        have z := List.findIdx?_eq_none_iff.mp q x x1
        rw [x2] at z
        cases z
    obtain ⟨j, fnd⟩ := fnd
    unfold setAddHashed setAddHashedIn
    refine wpAny_holding (wpAny_bind (wpAny_setState_of h1 hd fit ?_))
    dsimp only
    rw [byScan_of (knd := strKind P w) rfl (by omega) el, if_pos rfl]
    unfold setAddByScan
    refine wpAny_bind (wpAny_bind (wpAny_rule (wpAny_bind ?_)))
    refine wpAny_setScan_of (knd := strKind P w) (k := k) key h1 hd fit el ?_
    rw [fnd]
    exact wpAny_pure (wpAny_pure (hQ false s.heap l (Heap.SameBut.refl a s.heap) ⟨_, h1, F, h3, h4, h5⟩ (Nat.le_succ _) fun z => ⟨.inr, fun q => q.elim (fun e => e ▸ hk) id⟩))
  · refine PySem.Froz.add_x h1 F hk hb (hQ true _ (k :: l) (Heap.SameBut.update s.heap a _) ⟨_, PySem.Froz.get_upd _ h1 rfl, PySem.Froz.add_ok u F, more_ris h3, ?_, List.nodup_cons.mpr ⟨hk, h5⟩⟩ (Nat.le_refl _) fun z => List.mem_cons)
    rw [more_led]
    exact h4
/-- the walk over a list of texts that puts each into the set -/
theorem bag_fill {I : Addr} {fp wr : List Addr} {G : Array GenState → Array GenState → Prop} {n : Nat} {Pv : Nat → Value → Prop} {St : Nat → Shared → Prop} {R : Result → Shared → Prop}
    (W : WalksS P w A.in1 I fp wr G n Pv St) (a : Addr) (ha : a ∉ fp) (xs : List Str) (hb : n + 1 < scanBound) (hn : n = xs.length) (hv : ∀ i v, Pv i v → ∃ k t, xs[i]? = some k ∧ v = .str k t) :
    ∀ (m i : Nat) (s : Shared) (l : List Str), i + m = n → St i s → Bag P w a l s.heap → l.length ≤ i →
      (∀ s' l', Moved (a :: wr) G s s' → Bag P w a l' s'.heap → l'.length ≤ n → (∀ z, z ∈ l' ↔ z ∈ l ∨ z ∈ xs.drop i) → R (.ok (.ret .none)) s') →
      codeAny (model P w) A (.builtin "set.update.loop" ⟨[.ref a, .ref I], []⟩) R s
  | 0, i, s, l, him, hst, bg, hl, hR => by
    have e : i = n := him
    subst e
    refine codeAny_builtin PyProof.Rows.F.entry_set_update_loop ?_
    rw [Around.under_plainId PyProof.Rows.F.plain_set_update_loop _]
    refine wpAny_bind (m := pyNext (.ref I)) (W.done s _ _ hst fun s' hm => ?_)
    refine wpAny_pure (hR s' l (hm.mono fun b hb => List.mem_cons_of_mem _ hb) (bg.keep fun o e => hm.heap a o (fun h => ha (W.sub _ h)) e) hl fun z => ?_)
    rw [hn, List.drop_length]
    exact ⟨.inl, fun q => q.elim id fun q => nomatch q⟩
  | m + 1, i, s, l, him, hst, bg, hl, hR => by
    have hlt : i < n := by omega
    have aw : a ∉ wr := fun h => ha (W.sub _ h)
    refine codeAny_builtin PyProof.Rows.F.entry_set_update_loop ?_
    rw [Around.under_plainId PyProof.Rows.F.plain_set_update_loop _]
    refine wpAny_bind (m := pyNext (.ref I)) (W.item i s _ _ hlt hst fun v s' hP hst' hm => ?_)
    obtain ⟨k, t, hk, rfl⟩ := hv i v hP
    have hm2 : Moved (a :: wr) G s s' := hm.mono fun b hb => List.mem_cons_of_mem _ hb
    show wpAny _ A.in1 (holding [Value.str k t] (setAdd a (.str k t)) >>= _) _ _ s'
    refine wpAny_bind (wpAny_holding ?_)
    unfold setAdd
    refine wpAny_holding (wpAny_bind ((strKind P w).pyHash (PySem.Froz.is_str (P := P) (w := w) k t) ?_))
    refine bag_add (s := { s' with toks := s'.toks + 1 }) (l := l) (bg.keep fun o e => hm.heap a o aw e) (by omega) fun r h' l' sb bg' hl' mem => ?_
    refine wpAny_pure ⟨plainId_quiet PyProof.Rows.F.plain_set_update_loop _, bag_fill W a ha xs hb hn hv m (i + 1) _ l' (by omega) (W.frame _ s' _ _ hst' (Nat.le_succ _) fun b hb o e => (sb.2 b (fun z => ha (z ▸ hb))).trans e) bg' (by omega) fun s2 l2 hm3 bg2 hl2 mem2 => ?_⟩
    refine hR s2 l2 (Moved.trans W.gtrans (hm2.then_heap (Nat.le_succ _) fun b o hb e => (sb.2 b (fun z => hb (z ▸ List.mem_cons_self))).trans e) hm3) bg2 hl2 fun z => ?_
    rw [mem2, mem, List.drop_eq_getElem_cons (by omega : i < xs.length), List.mem_cons]
    have e : xs[i]'(by omega) = k := by
      rw [List.getElem?_eq_getElem (by omega)] at hk
      exact Option.some.inj hk
    rw [e]
    exact ⟨fun q => q.elim (fun q => q.elim (fun q => .inr (.inl q)) .inl) (fun q => .inr (.inr q)), fun q => q.elim (fun q => .inl (.inr q)) fun q => q.elim (fun q => .inl (.inl q)) .inr⟩
theorem bag_new {h : Heap} {a : Addr} {o : Obj} (e : h.get? a = some o) (eo : o = { cls := .type "set", dict := none, data := .set #[] 0 (.fresh 0 0 (!w.params.followText "set-order")) }) : Bag P w a [] h := by
  subst eo
  refine ⟨(#[], 0, .fresh 0 0 (!w.params.followText "set-order")), e, PySem.Froz.TxOk.nil rfl, List.Pairwise.nil, ?_, List.nodup_nil⟩
  show _ ∨ (!w.params.followText "set-order") = true
  cases w.params.followText "set-order"
  · exact .inr rfl
  · exact .inl rfl
end
end W9
namespace W9
open PySem PySem.Spec PyProof.Rows L2
section
variable {P : Program} {w : World} {A : Around} {E : Value → Shared → Prop} {s : Shared}
theorem nat_off1 {a b c : Nat} (h : a < b) (e : c = b + 1) : a ≠ c := by omega
theorem nat_off2 {b c : Nat} (e : c = b + 1) : b ≠ c := by omega
theorem nat_off3 {a b : Nat} (h : a < b) : b ≠ a := by omega
/-- a set without members, as it is laid -/
abbrev emptyO (w : World) : Obj := { cls := .type "set", dict := none, data := .set #[] 0 (.fresh 0 0 (!w.params.followText "set-order")) }
abbrev withSet (w : World) (s : Shared) : Shared := { s with heap := s.heap.push (emptyO w) }
theorem with_at : (withSet w s).heap.get? s.heap.objs.size = some (emptyO w) := Heap.get?_push_size _ rfl
/-- what set.__init__ leaves -/
def Filled (P : Program) (w : World) (s : Shared) (xs : List Str) (r : Value) (s2 : Shared) : Prop :=
  r = .none ∧ ∃ h' tk l, s2 = { s with heap := h', toks := tk } ∧ Bag P w s.heap.objs.size l h' ∧ (∀ z, z ∈ l ↔ z ∈ xs) ∧ l.length ≤ xs.length ∧ ∀ b o, s.heap.get? b = some o → h'.get? b = some o
set_option maxHeartbeats 4000000 in
theorem set_init {q : Addr} {items : Array Value} {xs : List Str} {A' : Around} (hh : A'.handled = none) (hq : s.heap.IsList q items) (hi : StrsAre items.toList xs) (hb : xs.length + 1 < scanBound) :
    codeAny (model P w) A' (.call (.builtin "set.__init__") ⟨[.ref s.heap.objs.size, .ref q], []⟩) (wants (Filled P w s xs) E) (withSet w s) := by
  have hT : Shared.TypeIs (withSet w s) (.ref s.heap.objs.size) "set" := ⟨_, with_at, rfl⟩
  refine codeAny_call_builtin (R := wants (Filled P w s xs) E) PySem.F.called_set.init.plain PySem.F.entry_set_init (check_set_init_1 hT ?_)
  have lq : q < s.heap.objs.size := let ⟨o, h1, _⟩ := hq; Heap.lt_size h1
  obtain ⟨⟨oc, od, ot, os⟩, h1, h2, en, h3⟩ := hq
  have h2 : oc = .type "list" := h2
  have h3 : ot = .seq items en := h3
  subst h2 h3
  have h4 : (withSet w s).heap.get? q = some { cls := .type "list", dict := od, data := .seq items en, slots := os } := Heap.get?_push_of_some _ h1
  have s1 := PySem.F.sub_list_set
  have s2 := PySem.F.sub_list_frozenset
  have nd : (Value.type "list" == Value.type "dict") = false := by decide
  have il : (withSet w s).heap.IsList q items := ⟨_, h4, rfl, en, rfl⟩
  unfold Builtin.«set.__init__» noKeywords Builtin.Frozenset.updateFrom
  generalize hp : pyIter = pI
  wp_walk
  subst hp
  refine wpAny_pyIter_list il (wpAny_bind (wpAny_runValue ?_))
  have h5 : A'.in1.in1.handled = none := by simp [hh]
  have h6 : A'.in1.handled = none := by simp [hh]
  have sz : (withSet w s).heap.objs.size = s.heap.objs.size + 1 := Heap.size_push ..
  have n1 : q ≠ (withSet w s).heap.objs.size := nat_off1 lq sz
  have n2 : s.heap.objs.size ∉ [(withSet w s).heap.objs.size, q] := by
    intro z
    rcases List.mem_cons.mp z with z | z
    · exact nat_off2 sz z
    · exact nat_off3 lq (List.mem_singleton.mp z)
  have hn : items.size = xs.length := by
    rw [← StrsAre.len_eq hi, Array.length_toList]
  have hv : ∀ (i : Nat) (v : Value), items[i]? = some v → ∃ k t, xs[i]? = some k ∧ v = .str k t := fun i v e => by
    obtain ⟨t, e2⟩ := SS.strs_at hi i v (by rw [Array.getElem?_toList]; exact e)
    have li : i < xs.length := by rw [← hn]; exact (Array.getElem?_eq_some_iff.mp e).1
    exact ⟨xs[i], t, List.getElem?_eq_getElem li, by rw [e2, List.getD_eq_getElem?_getD, List.getElem?_eq_getElem li, Option.getD_some]⟩
  refine bag_fill ((Walks.list (by assumption) _ q n1 items).toS) s.heap.objs.size n2 xs (by omega) hn hv items.size 0 _ [] (Nat.zero_add _) ⟨⟨_, Heap.get?_push_size _ rfl, rfl, rfl⟩, il.push _⟩ (bag_new (Heap.get?_push_of_some _ with_at) rfl) (Nat.le_refl _) fun s3 l hm bg hl mem => ?_
  obtain ⟨h7, g7, d7, t7, o7⟩ := s3
  have e1 : g7 = s.gens := hm.gens
  have e2 : d7 = s.drawn := hm.drawn
  have e3 : o7 = s.os := hm.os
  subst e1 e2 e3
  show wpAny _ _ _ _ _ _
  refine wpAny_pure ?_
  show wpAny _ _ (ret Value.none) _ _ _
  refine wpAny_pure ⟨rfl, h7, t7, l, rfl, bg, fun z => (mem z).trans ⟨fun x => x.elim (fun x => nomatch x) id, .inr⟩, hn ▸ hl, fun b o e => ?_⟩
  have lb := Heap.lt_size e
  refine hm.heap b o (fun z => ?_) (Heap.get?_push_of_some _ (Heap.get?_push_of_some _ e))
  rcases List.mem_cons.mp z with z | z
  · exact nat_off3 lb z.symm
  · exact nat_off1 lb sz (List.mem_singleton.mp z)
end
end W9
namespace W9
open PySem PySem.Spec PyProof.Rows L2
/-! ### zip of two texts of ascii signs -/
structure ZA (z TI TO i1 i2 : Addr) : Prop where
  nz : TI ≠ z ∧ TO ≠ z ∧ i1 ≠ z ∧ i2 ≠ z
  nO : TO ≠ i1 ∧ TO ≠ i2 ∧ TI ≠ TO
  n1 : i1 ≠ i2
theorem it_keep {h h' : Heap} {it : Addr} {x : Str} {t : Tok} {i : Nat} (st : h.IsStrIter it "str_ascii_iterator" x t i) (k : ∀ o, h.get? it = some o → h'.get? it = some o) : h'.IsStrIter it "str_ascii_iterator" x t i := by
  obtain ⟨o, ho, r⟩ := st
  exact ⟨o, k o ho, r⟩
section
variable {prog : Program} {w : World} {A : Around} {E : Value → Shared → Prop} {s : Shared}
theorem zs_item {z TI TO i1 i2 : Addr} {x y : Str} {t u : Tok} {k : Nat} {a b : Value} {Q : Value → Shared → Prop} (hh : A.handled = none) (D : ZA z TI TO i1 i2)
    (hz : IsZip s.heap z TI TO .none) (hTI : IsPair s.heap TI (.ref i1) (.ref i2)) (hTO : IsPair s.heap TO a b)
    (h1 : s.heap.IsStrIter i1 "str_ascii_iterator" x t k) (h2 : s.heap.IsStrIter i2 "str_ascii_iterator" y u k) (hx : k < x.cps.size) (hy : k < y.cps.size)
    (hQ : ∀ (h' : Heap) (tk : Tok) (v1 v2 : Value), (∃ c r, x.cps[k]? = some c ∧ v1 = .str ⟨#[c]⟩ r) → (∃ c r, y.cps[k]? = some c ∧ v2 = .str ⟨#[c]⟩ r) → IsZip h' z TI TO (rawInt s.heap.objs.size) → IsPair h' TO v1 v2 →
      h'.IsStrIter i1 "str_ascii_iterator" x t (k + 1) → h'.IsStrIter i2 "str_ascii_iterator" y u (k + 1) → IsPair h' s.heap.objs.size v1 v2 → h'.objs.size = s.heap.objs.size + 1 →
      (∀ c o, c ≠ z → c ≠ TO → c ≠ i1 → c ≠ i2 → s.heap.get? c = some o → h'.get? c = some o) → Q (.ref s.heap.objs.size) { s with heap := h', toks := tk }) :
    wpAny (model prog w) A (Builtin.«zip.__next__» ⟨[.ref z], []⟩) (fun fin s' => ∃ v, fin = .done (.ret v) ∧ Q v s') E s := by
  obtain ⟨⟨zTI, zTO, zi1, zi2⟩, ⟨O1, O2, IO⟩, n12⟩ := D
  show wpAny _ _ (field (.ref z) 2 >>= _) _ _ _
  refine wpAny_bind (wpAny_field hz rfl (x := .bool false) rfl ?_)
  show wpAny _ _ (field (.ref z) 3 >>= _) _ _ _
  refine wpAny_bind (wpAny_field hz rfl (x := .ref TI) rfl (wpAny_bind (wpAny_seqItems hTI rfl ?_)))
  show wpAny _ _ (Builtin.SmallTypes.ownedTupleIsFree (.ref z) >>= _) _ _ _
  refine wpAny_bind ?_
  unfold Builtin.SmallTypes.ownedTupleIsFree
  refine wpAny_bind (wpAny_field hz rfl (x := .none) rfl (wpAny_pure ?_))
  simp only [if_true]
  refine wpAny_bind (wpAny_rule (wpAny_bind (wpAny_field hz rfl (x := .ref TO) rfl (wpAny_bind (wpAny_setField_rec hz (by simp) fun ha za sa => ?_)))))
  replace za : IsZip ha z TI TO .ellipsis := za
  refine wpAny_bind ?_
  simp only [List.zipIdx_cons, List.zipIdx_nil, List.forIn_cons, List.forIn_nil]
  -- the first text's sign
  refine wpAny_bind (wpAny_bind (wpAny_onRaise ?_))
  show wpAny _ _ (Builtin.SmallTypes.nextOf (.ref i1) >>= _) _ _ _
  refine wpAny_bind ((Draws.strAscii (by exact hh) i1 x t).item k _ _ _ hx (it_keep h1 fun o e => sa.extBut _ _ zi1 e) fun v1 hb tb p1 st1 sb => wpAny_pure ?_)
  have Tb : IsPair hb TO a b := sb.extBut _ _ O1 (sa.extBut _ _ zTO hTO)
  refine wpAny_bind (wpAny_seqItems Tb rfl (wpAny_bind (wpAny_updateSeq_pair Tb fun hc Tc sc => ?_)))
  replace Tc : IsPair hc TO v1 b := Tc
  refine wpAny_bind (wpAny_letGo (wpAny_pure ?_))
  -- the second text's sign
  refine wpAny_bind (wpAny_bind (wpAny_onRaise ?_))
  show wpAny _ _ (Builtin.SmallTypes.nextOf (.ref i2) >>= _) _ _ _
  refine wpAny_bind ((Draws.strAscii (by exact hh) i2 y u).item k _ _ _ hy (it_keep h2 fun o e => sc.extBut _ _ (Ne.symm O2) (sb.extBut _ _ (Ne.symm n12) (sa.extBut _ _ zi2 e))) fun v2 hd td p2 st2 sd => wpAny_pure ?_)
  have Td : IsPair hd TO v1 b := sd.extBut _ _ O2 Tc
  refine wpAny_bind (wpAny_seqItems Td rfl (wpAny_bind (wpAny_updateSeq_pair Td fun he Te se => ?_)))
  replace Te : IsPair he TO v1 v2 := Te
  refine wpAny_bind (wpAny_letGo (wpAny_pure (wpAny_pure ?_)))
  refine wpAny_bind (wpAny_seqItems Te rfl (wpAny_bind (wpAny_newTuple ?_)))
  have size : he.objs.size = s.heap.objs.size := by rw [se.1, sd.1, sc.1, sb.1, sa.1]
  have ze : IsZip he z TI TO .ellipsis := se.extBut _ _ (Ne.symm zTO) (sd.extBut _ _ (Ne.symm zi2) (sc.extBut _ _ (Ne.symm zTO) (sb.extBut _ _ (Ne.symm zi1) za)))
  have keep : ∀ c o, c ≠ z → c ≠ TO → c ≠ i1 → c ≠ i2 → s.heap.get? c = some o → he.get? c = some o := fun c o c1 c2 c3 c4 e =>
    se.extBut _ _ c2 (sd.extBut _ _ c4 (sc.extBut _ _ c2 (sb.extBut _ _ c3 (sa.extBut _ _ c1 e))))
  have I1 : he.IsStrIter i1 "str_ascii_iterator" x t (k + 1) := it_keep st1 fun o e => se.extBut _ _ (Ne.symm O1) (sd.extBut _ _ n12 (sc.extBut _ _ (Ne.symm O1) e))
  have I2 : he.IsStrIter i2 "str_ascii_iterator" y u (k + 1) := it_keep st2 fun o e => se.extBut _ _ (Ne.symm O2) e
  have zl : z < he.objs.size := Heap.lt_size ze
  show wpAny _ _ (Builtin.SmallTypes.ownedTupleHandOut (.ref z) (.ref he.objs.size) >>= _) _ _ _
  refine wpAny_bind ?_
  unfold Builtin.SmallTypes.ownedTupleHandOut
  have zf : IsZip (he.push { cls := .type "tuple", data := .seq #[v1, v2] }) z TI TO .ellipsis := Heap.get?_push_of_some _ ze
  refine wpAny_bind (wpAny_setField_rec zf (by simp) fun hg zg sg => ?_)
  replace zg : IsZip hg z TI TO (rawInt he.objs.size) := zg
  refine wpAny_setField_rec zg (by simp) fun hk zk sk => ?_
  replace zk : IsZip hk z TI TO (rawInt he.objs.size) := zk
  have up : ∀ c o, c ≠ z → he.get? c = some o → hk.get? c = some o := fun c o c1 e => sk.extBut _ _ c1 (sg.extBut _ _ c1 (Heap.get?_push_of_some _ e))
  have new : IsPair hk he.objs.size v1 v2 := sk.extBut _ _ (Nat.ne_of_gt zl) (sg.extBut _ _ (Nat.ne_of_gt zl) (Heap.get?_push_size _ rfl))
  have size2 : hk.objs.size = he.objs.size + 1 := by rw [sk.1, sg.1, Heap.size_push]
  rw [size] at zk new size2
  refine wpAny_pure ⟨_, rfl, ?_⟩
  show Q (.ref he.objs.size) _
  rw [size]
  exact hQ hk _ v1 v2 p1 p2 zk (up _ _ zTO Te) (it_keep I1 fun o e => up _ o zi1 e) (it_keep I2 fun o e => up _ o zi2 e) new size2 fun c o c1 c2 c3 c4 e => up c o c1 (keep c o c1 c2 c3 c4 e)
theorem zs_stop {z TI TO i1 i2 : Addr} {x : Str} {t : Tok} {a b : Value} {Q : Fin → Shared → Prop} (hh : A.handled = none) (D : ZA z TI TO i1 i2)
    (hz : IsZip s.heap z TI TO .none) (hTI : IsPair s.heap TI (.ref i1) (.ref i2)) (hTO : IsPair s.heap TO a b) (h1 : s.heap.IsStrIter i1 "str_ascii_iterator" x t x.cps.size)
    (hE : ∀ h' e, (∀ c o, c ≠ z → c ≠ TO → c ≠ i1 → c ≠ i2 → s.heap.get? c = some o → h'.get? c = some o) → (∃ o, h'.get? e = some o ∧ o.cls = .type "StopIteration") → E (.ref e) { s with heap := h' }) :
    wpAny (model prog w) A (Builtin.«zip.__next__» ⟨[.ref z], []⟩) Q E s := by
  obtain ⟨⟨zTI, zTO, zi1, zi2⟩, ⟨O1, O2, IO⟩, n12⟩ := D
  show wpAny _ _ (field (.ref z) 2 >>= _) _ _ _
  refine wpAny_bind (wpAny_field hz rfl (x := .bool false) rfl ?_)
  show wpAny _ _ (field (.ref z) 3 >>= _) _ _ _
  refine wpAny_bind (wpAny_field hz rfl (x := .ref TI) rfl (wpAny_bind (wpAny_seqItems hTI rfl ?_)))
  show wpAny _ _ (Builtin.SmallTypes.ownedTupleIsFree (.ref z) >>= _) _ _ _
  refine wpAny_bind ?_
  unfold Builtin.SmallTypes.ownedTupleIsFree
  refine wpAny_bind (wpAny_field hz rfl (x := .none) rfl (wpAny_pure ?_))
  simp only [if_true]
  refine wpAny_bind (wpAny_rule (wpAny_bind (wpAny_field hz rfl (x := .ref TO) rfl (wpAny_bind (wpAny_setField_rec hz (by simp) fun ha za sa => ?_)))))
  replace za : IsZip ha z TI TO .ellipsis := za
  refine wpAny_bind ?_
  simp only [List.zipIdx_cons, List.zipIdx_nil, List.forIn_cons, List.forIn_nil]
  refine wpAny_bind (wpAny_bind (wpAny_onRaise ?_))
  show wpAny _ _ (Builtin.SmallTypes.nextOf (.ref i1) >>= _) _ _ _
  refine wpAny_bind ((Draws.strAscii (by exact hh) i1 x t).done _ _ _ (it_keep h1 fun o e => sa.extBut _ _ zi1 e) fun hb e sb oe => ?_)
  obtain ⟨o, ho, hc⟩ := oe
  have zb : IsZip hb z TI TO .ellipsis := sb _ _ (Ne.symm zi1) za
  have ez : e ≠ z := fun q => by
    subst q
    rw [zb] at ho
    cases ho
    simp at hc
  exact wpAny_setField_rec zb (by simp) fun hd _ sd => hE hd e (fun c o c1 _ c3 _ q => sd.extBut _ _ c1 (sb _ _ c3 (sa.extBut _ _ c1 q))) ⟨o, sd.extBut _ _ ez ho, hc⟩
theorem zs_next {z TI TO i1 i2 : Addr} {x y : Str} {t u : Tok} {k : Nat} {a b : Value} {Q : Option Value → Shared → Prop} (hh : A.handled = none) (D : ZA z TI TO i1 i2)
    (hz : IsZip s.heap z TI TO .none) (hTI : IsPair s.heap TI (.ref i1) (.ref i2)) (hTO : IsPair s.heap TO a b)
    (h1 : s.heap.IsStrIter i1 "str_ascii_iterator" x t k) (h2 : s.heap.IsStrIter i2 "str_ascii_iterator" y u k) (hx : k < x.cps.size) (hy : k < y.cps.size)
    (hQ : ∀ (h' : Heap) (tk : Tok) (v1 v2 : Value), (∃ c r, x.cps[k]? = some c ∧ v1 = .str ⟨#[c]⟩ r) → (∃ c r, y.cps[k]? = some c ∧ v2 = .str ⟨#[c]⟩ r) → IsZip h' z TI TO (rawInt s.heap.objs.size) → IsPair h' TO v1 v2 →
      h'.IsStrIter i1 "str_ascii_iterator" x t (k + 1) → h'.IsStrIter i2 "str_ascii_iterator" y u (k + 1) → IsPair h' s.heap.objs.size v1 v2 → h'.objs.size = s.heap.objs.size + 1 →
      (∀ c o, c ≠ z → c ≠ TO → c ≠ i1 → c ≠ i2 → s.heap.get? c = some o → h'.get? c = some o) → Q (some (.ref s.heap.objs.size)) { s with heap := h', toks := tk }) :
    wpAny (model prog w) A (pyNext (.ref z)) Q E s := by
  have hT : s.TypeIs (.ref z) "zip" := ⟨_, hz, rfl⟩
  unfold pyNext
  exact wpAny_bind (wpAny_attempt (wpAny_callSpecial?_slot (name := Str.ofString "__next__") hT F.slot_zip_next
    (wpAny_call_entry F.slot_zip_next hT F.entry_zip_next (zs_item hh D hz hTI hTO h1 h2 hx hy fun h' tk v1 v2 a1 a2 a3 a4 a5 a6 a7 a8 a9 => wpAny_pure (hQ h' tk v1 v2 a1 a2 a3 a4 a5 a6 a7 a8 a9)) (F.args_zip_next_1 _))))
theorem zs_end {z TI TO i1 i2 : Addr} {x : Str} {t : Tok} {a b : Value} {Q : Option Value → Shared → Prop} (hh : A.handled = none) (D : ZA z TI TO i1 i2)
    (hz : IsZip s.heap z TI TO .none) (hTI : IsPair s.heap TI (.ref i1) (.ref i2)) (hTO : IsPair s.heap TO a b) (h1 : s.heap.IsStrIter i1 "str_ascii_iterator" x t x.cps.size)
    (hQ : ∀ h', (∀ c o, c ≠ z → c ≠ TO → c ≠ i1 → c ≠ i2 → s.heap.get? c = some o → h'.get? c = some o) → Q none { s with heap := h' }) : wpAny (model prog w) A (pyNext (.ref z)) Q E s := by
  have hT : s.TypeIs (.ref z) "zip" := ⟨_, hz, rfl⟩
  unfold pyNext
  refine wpAny_bind (wpAny_attempt (wpAny_callSpecial?_slot (name := Str.ofString "__next__") hT F.slot_zip_next
    (wpAny_call_entry F.slot_zip_next hT F.entry_zip_next (zs_stop hh D hz hTI hTO h1 fun h' e hk he => ?_) (F.args_zip_next_1 _))))
  obtain ⟨o, ho, hc⟩ := he
  exact wpAny_bind (wpAny_isInstance (T := "StopIteration") (b := true) ⟨o, ho, hc⟩ isSubtype_stop (wpAny_pure (hQ _ hk)))
end
/-! #### zip(x, y) itself -/
abbrev sIt (x : Str) (t : Tok) : Obj := { cls := .type (strIterType x), data := .fields #[.str x t, .int 0 0] }
abbrev zp2 (h : Heap) (x y : Str) (t u : Tok) : Heap := (h.push (sIt x t)).push (sIt y u)
abbrev zp4 (h : Heap) (x y : Str) (t u : Tok) : Heap := ((zp2 h x y t u).push { cls := .type "tuple", data := .seq #[.ref h.objs.size, .ref (h.push (sIt x t)).objs.size] }).push { cls := .type "tuple", data := .seq #[.none, .none] }
abbrev zp5 (h : Heap) (x y : Str) (t u : Tok) : Heap := (zp4 h x y t u).push { cls := .type "zip", data := .fields #[.none, .bool false, .bool false, .ref (zp2 h x y t u).objs.size, .ref ((zp2 h x y t u).push { cls := .type "tuple", data := .seq #[.ref h.objs.size, .ref (h.push (sIt x t)).objs.size] }).objs.size] }
theorem zs_meets (x y : Str) (t u : Tok) :
    Meets (Builtin.«zip.__new__» ⟨[.type "zip", .str x t, .str y u], []⟩) (fun _ R s => R (.ok (.ret (.ref (zp4 s.heap x y t u).objs.size))) { s with heap := zp5 s.heap x y t u }) :=
  .of_wp fun prog w A R s h => by
    obtain ⟨hp, g, d, tk, os⟩ := s
    have hsub := sub_zip
    wp_walk using wpAny_pyIter_strU, wpAny_pyIter_strU
    exact ⟨_, rfl, h⟩
end W9
namespace W9
open PySem PySem.Spec PyProof.Rows L2
section
variable {prog : Program} {w : World} {A : Around} {E : Value → Shared → Prop} {s : Shared}
theorem zs_call {x y : Str} {t u : Tok} {Q : Value → Shared → Prop}
    (h : ∀ h', IsZip h' (s.heap.objs.size + 4) (s.heap.objs.size + 2) (s.heap.objs.size + 3) .none → IsPair h' (s.heap.objs.size + 2) (.ref s.heap.objs.size) (.ref (s.heap.objs.size + 1)) →
      IsPair h' (s.heap.objs.size + 3) .none .none → h'.IsStrIter s.heap.objs.size (strIterType x) x t 0 → h'.IsStrIter (s.heap.objs.size + 1) (strIterType y) y u 0 →
      (∀ c o, s.heap.get? c = some o → h'.get? c = some o) → Q (.ref (s.heap.objs.size + 4)) { s with heap := h' }) :
    wpAny (model prog w) A (call (.type "zip") [.str x t, .str y u]) Q E s := by
  refine callType_new F.called_zip (by decide) (F.typeCall_zip_2 _ _) (F.newCall_zip_2 _ _) (fun obj => F.args_object_init_3 obj _ _) F.entry_zip_new (zs_meets x y t u) ?_
  have a1 : (s.heap.push (sIt x t)).objs.size = s.heap.objs.size + 1 := Heap.size_push ..
  have a2 : (zp2 s.heap x y t u).objs.size = s.heap.objs.size + 2 := by rw [Heap.size_push, a1]
  have a3 : ((zp2 s.heap x y t u).push { cls := .type "tuple", data := .seq #[.ref s.heap.objs.size, .ref (s.heap.push (sIt x t)).objs.size] }).objs.size = s.heap.objs.size + 3 := by rw [Heap.size_push, a2]
  have a4 : (zp4 s.heap x y t u).objs.size = s.heap.objs.size + 4 := by rw [Heap.size_push, a3]
  have up : ∀ (g : Heap) (ob : Obj) {c : Addr} {o : Obj}, g.get? c = some o → (g.push ob).get? c = some o := fun g ob {c o} e => Heap.get?_push_of_some _ e
  have b5 : (zp5 s.heap x y t u).get? (zp4 s.heap x y t u).objs.size = some _ := Heap.get?_push_size _ rfl
  have b4 : (zp5 s.heap x y t u).get? ((zp2 s.heap x y t u).push { cls := .type "tuple", data := .seq #[.ref s.heap.objs.size, .ref (s.heap.push (sIt x t)).objs.size] }).objs.size = some _ := up _ _ (Heap.get?_push_size _ rfl)
  have b3 : (zp5 s.heap x y t u).get? (zp2 s.heap x y t u).objs.size = some _ := up _ _ (up _ _ (Heap.get?_push_size _ rfl))
  have b2 : (zp5 s.heap x y t u).get? (s.heap.push (sIt x t)).objs.size = some _ := up _ _ (up _ _ (up _ _ (Heap.get?_push_size _ rfl)))
  have b1 : (zp5 s.heap x y t u).get? s.heap.objs.size = some _ := up _ _ (up _ _ (up _ _ (up _ _ (Heap.get?_push_size _ rfl))))
  show _ ∧ _
  rw [a2, a3, a4] at b5
  rw [a1, a2] at b3
  rw [a3] at b4
  rw [a1] at b2
  rw [a4]
  exact ⟨⟨_, b5, rfl⟩, h _ b5 b3 b4 ⟨_, b1, rfl, rfl⟩ ⟨_, b2, rfl, rfl⟩ fun c o q => up _ _ (up _ _ (up _ _ (up _ _ (up _ _ q))))⟩
end
theorem za_nat (n : Nat) : (n + 2 ≠ n + 4 ∧ n + 3 ≠ n + 4 ∧ n ≠ n + 4 ∧ n + 1 ≠ n + 4) ∧ (n + 3 ≠ n ∧ n + 3 ≠ n + 1 ∧ n + 2 ≠ n + 3) ∧ n ≠ n + 1 := by omega
theorem za_new (n : Nat) : ZA (n + 4) (n + 2) (n + 3) n (n + 1) := ⟨(za_nat n).1, (za_nat n).2.1, (za_nat n).2.2⟩
def Itzs (x y : Str) : It := ⟨fun i _ => i < x.cps.size ∧ i < y.cps.size, fun i H v H' => ∃ T c d, v = .ref T ∧ H T = none ∧ H' = upd H T (.tup [.str ⟨#[c]⟩, .str ⟨#[d]⟩]) ∧ x.cps[i]? = some c ∧ y.cps[i]? = some d, fun i _ => i = x.cps.size⟩
theorem turn_zs {P : Program} {w : World} {K : PySem.W.Frag} {elts : List Expr} {kk : Nat} {tpos : Pos} {z TI TO i1 i2 : Addr} (D : ZA z TI TO i1 i2) (x y : Str) (t u : Tok) :
    Turn P w K (.Tuple elts kk tpos) (Itzs x y) [z, TI, TO, i1, i2] z (fun i h => IsZip h z TI TO .none ∧ IsPair h TI (.ref i1) (.ref i2) ∧ (∃ a b, IsPair h TO a b) ∧ h.IsStrIter i1 "str_ascii_iterator" x t i ∧ h.IsStrIter i2 "str_ascii_iterator" y u i) where
  mem := by simp
  obj := fun i h st c hc => by
    obtain ⟨hz, hTI, ⟨a, b, hTO⟩, ⟨o1, e1, _, d1⟩, ⟨o2, e2, _, d2⟩⟩ := st
    rcases (show c = z ∨ c = TI ∨ c = TO ∨ c = i1 ∨ c = i2 by simpa using hc) with q | q | q | q | q
    · subst q; exact ⟨_, hz, fun v q => nomatch q⟩
    · subst q; exact ⟨_, hTI, fun v q => nomatch q⟩
    · subst q; exact ⟨_, hTO, fun v q => nomatch q⟩
    · subst q; exact ⟨o1, e1, fun v q => by rw [d1] at q; cases q⟩
    · subst q; exact ⟨o2, e2, fun v q => by rw [d2] at q; cases q⟩
  keep := fun i h h' st k => by
    obtain ⟨hz, hTI, ⟨a, b, hTO⟩, h1, h2⟩ := st
    exact ⟨k z (by simp) _ hz, k TI (by simp) _ hTI, ⟨a, b, k TO (by simp) _ hTO⟩, it_keep h1 fun o q => k i1 (by simp) o q, it_keep h2 fun o q => k i2 (by simp) o q⟩
  item := by
    intro X hP hw hK hc i pins s σ H E J hf st hlt
    subst hP hw hK
    obtain ⟨hz, hTI, ⟨a, b, hTO⟩, h1, h2⟩ := st
    have zl : z < s.heap.objs.size := Heap.lt_size hz
    refine zs_next (J.ok.hd hc) D hz hTI hTO h1 h2 hlt.1 hlt.2 fun h' tk v1 v2 p1 p2 z' TO' h1' h2' hT hsz hk => ?_
    obtain ⟨c1, r1, g1, rfl⟩ := p1
    obtain ⟨c2, r2, g2, rfl⟩ := p2
    refine ⟨_, rfl, wpAny_letOwnedTupleGo_zip (s := { s with heap := h', toks := tk }) z' fun h'' z'' sb => ?_⟩
    have new : ObjOk X.prog X.w (upd H s.heap.objs.size (.tup [.str ⟨#[c1]⟩, .str ⟨#[c2]⟩])) h'' s.heap.objs.size (.tup [.str ⟨#[c1]⟩, .str ⟨#[c2]⟩]) :=
      ⟨by show 2 ≤ sizeLine; decide, [.str ⟨#[c1]⟩ r1, .str ⟨#[c2]⟩ r2], .cons ⟨_, rfl⟩ (.cons ⟨_, rfl⟩ .nil), ⟨_, (sb.2 _ (Nat.ne_of_gt zl)).trans hT, rfl, _, rfl⟩⟩
    have J1 := J.turnedNew (ch := [z, TI, TO, i1, i2]) (t' := tk) (fun c o hb q => (sb.2 c (fun q' => hb (by simp [q']))).trans (hk c o (fun q' => hb (by simp [q'])) (fun q' => hb (by simp [q'])) (fun q' => hb (by simp [q'])) (fun q' => hb (by simp [q'])) q)) hf (Nat.le_refl _) new
    refine ⟨.ref s.heap.objs.size, _, J1, rfl, ⟨_, c1, c2, rfl, J.hok.fresh (Nat.le_refl _), rfl, g1, g2⟩, ⟨z'', ?_, ⟨.str ⟨#[c1]⟩ r1, .str ⟨#[c2]⟩ r2, ?_⟩, ?_, ?_⟩, fun c hcm => ?_⟩
    · exact (sb.2 _ D.nz.1).trans (hk _ _ D.nz.1 D.nO.2.2 (fun q => by rw [q] at hTI; obtain ⟨o, e, e2, _⟩ := h1; rw [hTI] at e; cases e; simp at e2) (fun q => by rw [q] at hTI; obtain ⟨o, e, e2, _⟩ := h2; rw [hTI] at e; cases e; simp at e2) hTI)
    · exact (sb.2 _ D.nz.2.1).trans TO'
    · exact it_keep h1' fun o q => (sb.2 _ D.nz.2.2.1).trans q
    · exact it_keep h2' fun o q => (sb.2 _ D.nz.2.2.2).trans q
    · have hl : c < s.heap.objs.size := by
        rcases (show c = z ∨ c = TI ∨ c = TO ∨ c = i1 ∨ c = i2 by simpa using hcm) with q | q | q | q | q
        · rw [q]; exact zl
        · rw [q]; exact Heap.lt_size hTI
        · rw [q]; exact Heap.lt_size hTO
        · rw [q]; obtain ⟨_, e1, _⟩ := h1; exact Heap.lt_size e1
        · rw [q]; obtain ⟨_, e2, _⟩ := h2; exact Heap.lt_size e2
      rw [upd_ne (Nat.ne_of_lt hl)]
      exact (hf c hcm).1
  done := by
    intro X hP hw hK hc i pins s σ H E J hf st hstop
    subst hP hw hK
    obtain ⟨hz, hTI, ⟨a, b, hTO⟩, h1, h2⟩ := st
    have hstop : i = x.cps.size := hstop
    subst hstop
    exact zs_end (J.ok.hd hc) D hz hTI hTO h1 fun h' hk => ⟨rfl, J.turnedL (t' := s.toks) (ch := [z, TI, TO, i1, i2]) (fun c o hb q =>
      hk c o (fun q' => hb (by simp [q'])) (fun q' => hb (by simp [q'])) (fun q' => hb (by simp [q'])) (fun q' => hb (by simp [q'])) q) hf⟩
  self := fun A i s Q E st h => wpAny_pyIter_zip st.1 h
def iZipS (ta : TA) : TI := fun σ H R => ta σ H fun vs H1 => ∃ x y : Str, vs = [.str x, .str y] ∧ x.cps.all (· < 128) = true ∧ y.cps.all (· < 128) = true ∧ R (Itzs x y) H1
theorem pi_zipS {X : Cx} {e e2 : Expr} {ta : TA} {p pos tpos : Pos} {elts : List Expr} {kk : Nat} (hg : Gl X "zip") (hm : X.mg "zip" = none) (ha : PA X [e, e2] ta)
    (hs : starEach [e, e2] X.env = (false, eval e X.env) :: starEach [e2] X.env := by rfl) (hpl : (backTo pos (starEach [e2] X.env)).any (·.1) = false := by rfl) :
    PI X (.Tuple elts kk tpos) (.Call (.Name "zip" p) [e, e2] [] pos) (iZipS ta) := ⟨fun pins s σ H R J h => by
  refine Call_ (ld_blt J hg hm PyProof.Rows.boot_zip (PyProof.Rows.callWith_type1 (thn (ha.run pos pins s σ H _ J h) fun us s1 ⟨vs, H1, J1, r1, x, y, ex, hx, hy, q⟩ => ?_) hs hpl))
  subst ex
  cases r1 with
  | cons r rr =>
    cases rr with
    | cons r' rr =>
      cases rr
      obtain ⟨t, rfl⟩ := r
      obtain ⟨u, rfl⟩ := r'
      refine zs_call fun h' hz hTI hTO h1 h2 hk => wpAny_pyIter_zip hz ?_
      have tx : strIterType x = "str_ascii_iterator" := by unfold strIterType; rw [if_pos hx]
      have ty : strIterType y = "str_ascii_iterator" := by unfold strIterType; rw [if_pos hy]
      rw [tx] at h1
      rw [ty] at h2
      refine ⟨s1.heap.objs.size + 4, [s1.heap.objs.size + 4, s1.heap.objs.size + 2, s1.heap.objs.size + 3, s1.heap.objs.size, s1.heap.objs.size + 1], _, _, H1, rfl, J1.kept (t' := s1.toks) hk, turn_zs (za_new s1.heap.objs.size) x y t u, ⟨hz, hTI, ⟨_, _, hTO⟩, h1, h2⟩, fun c hcm => ?_, q⟩
      have hle : s1.heap.objs.size ≤ c := by
        rcases (show c = s1.heap.objs.size + 4 ∨ c = s1.heap.objs.size + 2 ∨ c = s1.heap.objs.size + 3 ∨ c = s1.heap.objs.size ∨ c = s1.heap.objs.size + 1 by simpa using hcm) with q | q | q | q | q <;> (rw [q]; first | exact Nat.le_add_right _ _ | exact Nat.le_refl _)
      exact J1.fpOk hle (J1.hok.fresh hle)⟩
section
variable {X : Cx} {ds : DE} {e e2 : Expr} {pos : Pos}
/-- zip of two texts as long as each other -/
theorem ei_zipS {l k : List Nat} {p tpos : Pos} {elts : List Expr} {kk : Nat} (h : EE X e ds (S l)) (h2 : EE X e2 ds (S k)) (hlen : l.length = k.length) (ha : l.all (· < 128) = true) (hb : k.all (· < 128) = true) (hm : X.mg "zip" = none) (hg : Gl X "zip" := by rfl)
    (hs : starEach [e, e2] X.env = (false, eval e X.env) :: starEach [e2] X.env := by rfl) (hpl : (backTo pos (starEach [e2] X.env)).any (·.1) = false := by rfl) (hs2 : starEach [e2] X.env = (false, eval e2 X.env) :: starEach [] X.env := by rfl) :
    EI X (.Tuple elts kk tpos) (.Call (.Name "zip" p) [e, e2] [] pos) ds ((List.zip l k).map fun (q : Nat × Nat) => Tp [sgn q.1, sgn q.2]) := fun m σ G H E w R' q => oI (pi_zipS hg hm (pa_cons (pE e) (pa_cons (pE e2) pa_nil hs2) hs) hs hpl) (h m σ G H E w _ fun v d m1 G1 H1 g1 r1 ⟨e1, e2⟩ => by
  subst e1 e2
  refine h2 m1 σ G1 H1 (E.mono g1.g) g1.wd _ fun v2 d m2 G2 H2 g2 r2 ⟨e1, e2⟩ => ?_
  subst e1 e2
  cases ds_str r1
  cases ds_str r2
  have lz : (List.zip l k).length = l.length := by rw [List.length_zip]; omega
  refine ⟨_, _, rfl, by simpa using ha, by simpa using hb, q (Itzs ⟨l.toArray⟩ ⟨k.toArray⟩) _ _ _ _ (g1.trans g2) ⟨fun i H e hi => ?_, fun H e => ?_, fun i m' G' H' x H2 e w' hi y => ?_⟩ ⟨rfl, rfl⟩⟩
  · rw [List.length_map, lz] at hi
    show i < l.toArray.size ∧ i < k.toArray.size
    simp only [List.size_toArray]
    omega
  · show ((List.zip l k).map fun (q : Nat × Nat) => Tp [sgn q.1, sgn q.2]).length = l.toArray.size
    rw [List.length_map, lz, List.size_toArray]
  · obtain ⟨T, c, d, rfl, nT, rfl, hc, hd⟩ := y
    have hc : l[i]? = some c := by simpa using hc
    have hd : k[i]? = some d := by simpa using hd
    have g3 := Gr.new (o := .tup [.str ⟨#[c]⟩, .str ⟨#[d]⟩]) w' nT
    refine ⟨_, Tp [sgn c, sgn d], g3, ?_, .py (.tup (SqT.of upd_same) (.cons (.str _) (.cons (.str _) .nil)))⟩
    rw [List.getElem?_map, List.getElem?_zip_eq_some (z := (c, d)) |>.mpr ⟨hc, hd⟩]
    rfl)
end
end W9
namespace W9
open PySem PySem.Spec PyProof.Rows L2
/-! ### of two unlike sealed pages each is greater than the other at two places at least -/
def dS (F : Nat → Int) : Nat → List Nat → List Nat → Int
  | i, x :: xs, y :: ys => ((y : Int) - x) * F i + dS F (i + 1) xs ys
  | _, _, _ => 0
theorem dS_sum (f : Nat → Nat) : ∀ (i : Nat) (xs ys : List Nat), xs.length = ys.length → Ok xs → Ok ys → ((sumW f i xs : Nat) : Int) - (sumW f i ys : Nat) = dS (fun j => (f j : Int)) i xs ys
  | i, [], [], _, _, _ => rfl
  | i, [], y :: ys, h, _, _ => by simp at h
  | i, x :: xs, [], h, _, _ => by simp at h
  | i, x :: xs, y :: ys, h, hx, hy => by
    have ih := dS_sum f (i + 1) xs ys (by simpa using h) hx.tail hy.tail
    have h1 := hx.head
    have h2 := hy.head
    have e1 : ((sumW f i (x :: xs) : Nat) : Int) = (15 - (x : Int)) * (f i : Int) + (sumW f (i + 1) xs : Nat) := by
      show (((15 - x) * f i + sumW f (i + 1) xs : Nat) : Int) = _
      rw [Int.natCast_add, Int.natCast_mul]
      have e : ((15 - x : Nat) : Int) = 15 - (x : Int) := by omega
      rw [e]
    have e2 : ((sumW f i (y :: ys) : Nat) : Int) = (15 - (y : Int)) * (f i : Int) + (sumW f (i + 1) ys : Nat) := by
      show (((15 - y) * f i + sumW f (i + 1) ys : Nat) : Int) = _
      rw [Int.natCast_add, Int.natCast_mul]
      have e : ((15 - y : Nat) : Int) = 15 - (y : Int) := by omega
      rw [e]
    rw [e1, e2]
    show _ = ((y : Int) - x) * (f i : Int) + dS (fun j => (f j : Int)) (i + 1) xs ys
    rw [← ih, Int.sub_mul, Int.sub_mul, Int.sub_mul]
    omega
theorem dS_lin (F G H : Nat → Int) (a b c : Int) : ∀ (i : Nat) (xs ys : List Nat), dS (fun j => a * F j + b * G j + c * H j) i xs ys = a * dS F i xs ys + b * dS G i xs ys + c * dS H i xs ys
  | _, [], _ => by show (0 : Int) = a * 0 + b * 0 + c * 0; omega
  | _, _ :: _, [] => by show (0 : Int) = a * 0 + b * 0 + c * 0; omega
  | i, x :: xs, y :: ys => by
    show ((y : Int) - x) * (a * F i + b * G i + c * H i) + dS _ (i + 1) xs ys = a * (((y : Int) - x) * F i + dS F (i + 1) xs ys) + b * (((y : Int) - x) * G i + dS G (i + 1) xs ys) + c * (((y : Int) - x) * H i + dS H (i + 1) xs ys)
    rw [dS_lin F G H a b c (i + 1) xs ys]
    generalize (y : Int) - x = d
    rw [Int.mul_add, Int.mul_add, Int.mul_add, Int.mul_add, Int.mul_add, Int.mul_left_comm d a, Int.mul_left_comm d b, Int.mul_left_comm d c]
    omega
theorem dS_zero (F : Nat → Int) : ∀ (i : Nat) (xs ys : List Nat), xs.length = ys.length → (∀ j, j < xs.length → 0 ≤ ((w0 ys j : Int) - w0 xs j) * F (i + j)) → 0 ≤ dS F i xs ys ∧ (dS F i xs ys = 0 → ∀ j, j < xs.length → ((w0 ys j : Int) - w0 xs j) * F (i + j) = 0)
  | i, [], ys, _, _ => ⟨Int.le_refl 0, fun _ j hj => absurd hj (Nat.not_lt_zero j)⟩
  | i, x :: xs, [], h, _ => by simp at h
  | i, x :: xs, y :: ys, h, hp => by
    have ih := dS_zero F (i + 1) xs ys (by simpa using h) fun j hj => by
      have := hp (j + 1) (by rw [List.length_cons]; omega)
      have e : i + 1 + j = i + (j + 1) := by omega
      rw [e]
      exact this
    have h0 : 0 ≤ ((y : Int) - x) * F i := hp 0 (by rw [List.length_cons]; omega)
    have e : dS F i (x :: xs) (y :: ys) = ((y : Int) - x) * F i + dS F (i + 1) xs ys := rfl
    refine ⟨by rw [e]; omega, fun hz j hj => ?_⟩
    rw [e] at hz
    cases j with
    | zero =>
      show ((y : Int) - x) * F i = 0
      omega
    | succ j =>
      have := ih.2 (by omega) j (by rw [List.length_cons] at hj; omega)
      have e : i + 1 + j = i + (j + 1) := by omega
      rw [e] at this
      exact this
theorem tw_gt {k n n' : Nat} (h : n < 16 ^ k) (h' : n' < 16 ^ k) (ne : n ≠ n') : ∃ j, j < 2 * k ∧ w0 (tw k n') j < w0 (tw k n) j := by
  have l1 := digs_length k n
  have l2 := digs_length k n'
  have hd : ∃ j, j < k ∧ w0 (digs k n) j ≠ w0 (digs k n') j := Classical.byContradiction fun z => ne (by
    have e : digs k n = digs k n' := ext_w0 (by rw [l1, l2]) fun j hj => Classical.byContradiction fun y => z ⟨j, by rw [l1] at hj; exact hj, y⟩
    have e2 := congrArg num e
    rw [num_digs, num_digs, Nat.mod_eq_of_lt h, Nat.mod_eq_of_lt h'] at e2
    exact e2)
  obtain ⟨j, hj, hne⟩ := hd
  have lo1 : ∀ m, w0 (tw k m) j = w0 (digs k m) j := fun m => w0_app1 (by rw [digs_length]; exact hj)
  have hi1 : ∀ m, w0 (tw k m) (k + j) = 15 - w0 (digs k m) j := fun m => by
    have e := w0_app2 (a := digs k m) (b := cmpl (digs k m)) (p := j)
    rw [digs_length] at e
    refine Eq.trans e (w0_of ?_)
    rw [List.getElem?_map, w0_get (by rw [digs_length]; exact hj)]
    rfl
  have b1 := w0_lt (digs_ok k n) j
  have b2 := w0_lt (digs_ok k n') j
  by_cases hlt : w0 (digs k n') j < w0 (digs k n) j
  · exact ⟨j, by omega, by rw [lo1, lo1]; exact hlt⟩
  · exact ⟨k + j, by omega, by rw [hi1, hi1]; omega⟩
theorem tail_w0 (a b c : Nat) : (∀ j, j < 6 → w0 (tailOf a b c) j = w0 (tw 3 a) j) ∧ (∀ j, j < 10 → w0 (tailOf a b c) (6 + j) = w0 (tw 5 b) j) ∧ ∀ j, j < 14 → w0 (tailOf a b c) (16 + j) = w0 (tw 7 c) j := by
  have l1 := tw_length 3 a
  have l2 := tw_length 5 b
  refine ⟨fun j hj => w0_app1 (by omega), fun j hj => ?_, fun j hj => ?_⟩
  · have e := w0_app2 (a := tw 3 a) (b := tw 5 b ++ tw 7 c) (p := j)
    rw [l1] at e
    exact Eq.trans e (w0_app1 (by omega))
  · have e := w0_app2 (a := tw 3 a) (b := tw 5 b ++ tw 7 c) (p := 10 + j)
    rw [l1] at e
    have e2 := w0_app2 (a := tw 5 b) (b := tw 7 c) (p := j)
    rw [l2] at e2
    have e3 : 16 + j = 2 * 3 + (10 + j) := by omega
    rw [e3]
    exact e.trans e2
theorem cellsOf_inj {t u : List Nat} (ht : OkT t) (hu : OkT u) (hl : t.length ≤ 113) (hl2 : u.length ≤ 113) (h : cellsOf t = cellsOf u) : t = u := by
  have e : ∀ v, v.length ≤ 113 → (cellsOf v).take 226 = cellsOf v := fun v hv => List.take_of_length_le (by rw [cellsOf_length hv]; exact Nat.le_refl 226)
  have d : ∀ v, OkT v → v.length ≤ 113 → dec (cellsOf v) = some v := fun v hv hn => dec_of ((isT_cells (cellsOf_ok v) (by rw [cellsOf_length hn]; exact Nat.le_refl 226) hv hn).mpr (e v hn).symm)
  have e1 := d t ht hl
  rw [h, d u hu hl2] at e1
  exact (Option.some.inj e1).symm
/-- THE CORE of k08 -/
theorem two_greater {t u : List Nat} (ht : OkT t) (hu : OkT u) (hl : t.length ≤ 113) (hl2 : u.length ≤ 113) (ne : t ≠ u) : ∃ p q, p < q ∧ q < 256 ∧ w0 (sealT u) p < w0 (sealT t) p ∧ w0 (sealT u) q < w0 (sealT t) q := by
  refine Classical.byContradiction fun no => ?_
  have one : ∀ p q, p < 256 → q < 256 → w0 (sealT u) p < w0 (sealT t) p → w0 (sealT u) q < w0 (sealT t) q → p = q := fun p q hp hq h1 h2 => by
    rcases Nat.lt_trichotomy p q with z | z | z
    · exact absurd ⟨p, q, z, hq, h1, h2⟩ no
    · exact z
    · exact absurd ⟨q, p, z, hp, h2, h1⟩ no
  have lx := cellsOf_length hl
  have ly := cellsOf_length hl2
  have ox := cellsOf_ok t
  have oy := cellsOf_ok u
  have hd : ∀ v, v.length ≤ 113 → ∀ i, i < 226 → w0 (sealT v) i = w0 (cellsOf v) i := fun v hv i hi => w0_app1 (by rw [cellsOf_length hv]; exact hi)
  have tl : ∀ v, v.length ≤ 113 → ∀ k, w0 (sealT v) (226 + k) = w0 (tailOf (s0 (cellsOf v)) (s1 (cellsOf v)) (s2 (cellsOf v))) k := fun v hv k => by
    have e := w0_app2 (a := cellsOf v) (b := tailOf (s0 (cellsOf v)) (s1 (cellsOf v)) (s2 (cellsOf v))) (p := k)
    rw [cellsOf_length hv] at e
    exact e
  have g0 : s0 (cellsOf t) ≠ s0 (cellsOf u) → ∃ j, j < 6 ∧ w0 (sealT u) (226 + j) < w0 (sealT t) (226 + j) := fun h => by
    obtain ⟨j, hj, hg⟩ := tw_gt (k := 3) (s0_lt _) (s0_lt _) h
    exact ⟨j, hj, by rw [tl u hl2, tl t hl, (tail_w0 _ _ _).1 j hj, (tail_w0 _ _ _).1 j hj]; exact hg⟩
  have g1 : s1 (cellsOf t) ≠ s1 (cellsOf u) → ∃ j, j < 10 ∧ w0 (sealT u) (226 + (6 + j)) < w0 (sealT t) (226 + (6 + j)) := fun h => by
    obtain ⟨j, hj, hg⟩ := tw_gt (k := 5) (s1_lt _) (s1_lt _) h
    exact ⟨j, hj, by rw [tl u hl2, tl t hl, (tail_w0 _ _ _).2.1 j hj, (tail_w0 _ _ _).2.1 j hj]; exact hg⟩
  have g2 : s2 (cellsOf t) ≠ s2 (cellsOf u) → ∃ j, j < 14 ∧ w0 (sealT u) (226 + (16 + j)) < w0 (sealT t) (226 + (16 + j)) := fun h => by
    obtain ⟨j, hj, hg⟩ := tw_gt (k := 7) (s2_lt _) (s2_lt _) h
    exact ⟨j, hj, by rw [tl u hl2, tl t hl, (tail_w0 _ _ _).2.2 j hj, (tail_w0 _ _ _).2.2 j hj]; exact hg⟩
  have full : ∀ v, v.length ≤ 113 → ∀ f, sumW f 0 ((cellsOf v).take 226) = sumW f 0 (cellsOf v) := fun v hv f => by rw [List.take_of_length_le (by rw [cellsOf_length hv]; exact Nat.le_refl 226)]
  have d0 := dS_sum f0 0 (cellsOf t) (cellsOf u) (by rw [lx, ly]) ox oy
  have d1 := dS_sum f1 0 (cellsOf t) (cellsOf u) (by rw [lx, ly]) ox oy
  have d2 := dS_sum f2 0 (cellsOf t) (cellsOf u) (by rw [lx, ly]) ox oy
  rw [← full t hl f0, ← full u hl2 f0] at d0
  rw [← full t hl f1, ← full u hl2 f1] at d1
  rw [← full t hl f2, ← full u hl2 f2] at d2
  have xy : cellsOf t ≠ cellsOf u := fun z => ne (cellsOf_inj ht hu hl hl2 z)
  by_cases hh : ∃ p, p < 226 ∧ w0 (cellsOf u) p < w0 (cellsOf t) p
  · obtain ⟨p, hp, hg⟩ := hh
    have hgp : w0 (sealT u) p < w0 (sealT t) p := by rw [hd u hl2 p hp, hd t hl p hp]; exact hg
    have e0 : s0 (cellsOf t) = s0 (cellsOf u) := Classical.byContradiction fun z => by
      obtain ⟨j, hj, h2⟩ := g0 z
      have := one p _ (by omega) (by omega) hgp h2
      omega
    have e1 : s1 (cellsOf t) = s1 (cellsOf u) := Classical.byContradiction fun z => by
      obtain ⟨j, hj, h2⟩ := g1 z
      have := one p _ (by omega) (by omega) hgp h2
      omega
    have e2 : s2 (cellsOf t) = s2 (cellsOf u) := Classical.byContradiction fun z => by
      obtain ⟨j, hj, h2⟩ := g2 z
      have := one p _ (by omega) (by omega) hgp h2
      omega
    have z0 : dS (fun j => ((f0 j : Nat) : Int)) 0 (cellsOf t) (cellsOf u) = 0 := by rw [← d0]; show ((s0 (cellsOf t) : Nat) : Int) - (s0 (cellsOf u) : Nat) = 0; omega
    have z1 : dS (fun j => ((f1 j : Nat) : Int)) 0 (cellsOf t) (cellsOf u) = 0 := by rw [← d1]; show ((s1 (cellsOf t) : Nat) : Int) - (s1 (cellsOf u) : Nat) = 0; omega
    have z2 : dS (fun j => ((f2 j : Nat) : Int)) 0 (cellsOf t) (cellsOf u) = 0 := by rw [← d2]; show ((s2 (cellsOf t) : Nat) : Int) - (s2 (cellsOf u) : Nat) = 0; omega
    have lin := dS_lin (fun j => ((f2 j : Nat) : Int)) (fun j => ((f1 j : Nat) : Int)) (fun j => ((f0 j : Nat) : Int)) 1 (-(2 * ((p : Int) + 1))) (((p : Int) + 1) * ((p : Int) + 1)) 0 (cellsOf t) (cellsOf u)
    rw [z0, z1, z2, Int.mul_zero, Int.mul_zero, Int.mul_zero] at lin
    have wsq : ∀ j : Nat, 1 * ((f2 j : Nat) : Int) + -(2 * ((p : Int) + 1)) * ((f1 j : Nat) : Int) + ((p : Int) + 1) * ((p : Int) + 1) * ((f0 j : Nat) : Int) = ((j : Int) - p) * ((j : Int) - p) := fun j => by
      show 1 * (((j + 1) * (j + 1) : Nat) : Int) + -(2 * ((p : Int) + 1)) * ((j + 1 : Nat) : Int) + ((p : Int) + 1) * ((p : Int) + 1) * ((1 : Nat) : Int) = _
      rw [Int.natCast_mul, Int.natCast_add, Int.natCast_one]
      have m1 : ((j : Int) + 1) * ((j : Int) + 1) = (j : Int) * j + 2 * j + 1 := by rw [Int.add_mul, Int.mul_add, Int.one_mul, Int.mul_one]; omega
      have m2 : ((p : Int) + 1) * ((p : Int) + 1) = (p : Int) * p + 2 * p + 1 := by rw [Int.add_mul, Int.mul_add, Int.one_mul, Int.mul_one]; omega
      have m3 : -(2 * ((p : Int) + 1)) * ((j : Int) + 1) = -(2 * ((p : Int) * j)) - 2 * p - 2 * j - 2 := by
        have m5 : (p : Int) * ((j : Int) + 1) = (p : Int) * j + p := by rw [Int.mul_add, Int.mul_one]
        rw [Int.neg_mul, Int.mul_assoc, Int.add_mul, Int.one_mul, m5]; omega
      have m4 : ((j : Int) - p) * ((j : Int) - p) = (j : Int) * j - 2 * ((p : Int) * j) + (p : Int) * p := by
        rw [Int.sub_mul, Int.mul_sub, Int.mul_sub, Int.mul_comm (j : Int) p]; omega
      rw [m1, m2, m3, m4]
      omega
    have key := dS_zero (fun j => 1 * ((f2 j : Nat) : Int) + -(2 * ((p : Int) + 1)) * ((f1 j : Nat) : Int) + ((p : Int) + 1) * ((p : Int) + 1) * ((f0 j : Nat) : Int)) 0 (cellsOf t) (cellsOf u) (by rw [lx, ly]) fun j hj => by
      rw [Nat.zero_add, wsq]
      by_cases e : j = p
      · subst e
        rw [Int.sub_self, Int.mul_zero, Int.mul_zero]
        exact Int.le_refl 0
      · have h1 : ¬ w0 (cellsOf u) j < w0 (cellsOf t) j := fun z => e (one j p (by omega) (by omega) (by rw [hd u hl2 j (by omega), hd t hl j (by omega)]; exact z) hgp)
        refine Int.mul_nonneg (by omega) ?_
        rcases Int.le_total 0 ((j : Int) - p) with z | z
        · exact Int.mul_nonneg z z
        · have := Int.mul_nonneg (a := -((j : Int) - p)) (b := -((j : Int) - p)) (by omega) (by omega)
          rwa [Int.neg_mul_neg] at this
    have terms := key.2 (by rw [lin]; rfl)
    have same : ∀ j, j < 226 → j ≠ p → w0 (cellsOf u) j = w0 (cellsOf t) j := fun j hj e => by
      have h1 := terms j (by rw [lx]; exact hj)
      rw [Nat.zero_add, wsq] at h1
      rcases Int.mul_eq_zero.mp h1 with z | z
      · omega
      · rcases Int.mul_eq_zero.mp z with z | z <;> omega
    have last := dS_zero (fun j => -((f0 j : Nat) : Int)) 0 (cellsOf t) (cellsOf u) (by rw [lx, ly]) fun j hj => by
      show 0 ≤ ((w0 (cellsOf u) j : Int) - w0 (cellsOf t) j) * -(((1 : Nat) : Int))
      by_cases e : j = p
      · subst e; omega
      · rw [same j (by omega) e]; omega
    have linm := dS_lin (fun j => ((f0 j : Nat) : Int)) (fun j => ((f0 j : Nat) : Int)) (fun j => ((f0 j : Nat) : Int)) (-1) 0 0 0 (cellsOf t) (cellsOf u)
    have fe : (fun j : Nat => -1 * ((f0 j : Nat) : Int) + 0 * ((f0 j : Nat) : Int) + 0 * ((f0 j : Nat) : Int)) = fun j => -((f0 j : Nat) : Int) := by
      funext j
      omega
    rw [fe, z0] at linm
    have h9 := last.2 (by rw [linm]; rfl) p (by rw [lx]; exact hp)
    have h9 : ((w0 (cellsOf u) p : Int) - w0 (cellsOf t) p) * -(((1 : Nat) : Int)) = 0 := h9
    omega
  · have le : ∀ p, p < 226 → w0 (cellsOf t) p ≤ w0 (cellsOf u) p := fun p hp => Classical.byContradiction fun z => hh ⟨p, hp, by omega⟩
    have pos : ∀ f : Nat → Nat, (∀ j, 0 < f j) → dS (fun j => ((f j : Nat) : Int)) 0 (cellsOf t) (cellsOf u) ≠ 0 := fun f hf z => xy (ext_w0 (by rw [lx, ly]) fun j hj => by
      have key := dS_zero (fun j => ((f j : Nat) : Int)) 0 (cellsOf t) (cellsOf u) (by rw [lx, ly]) fun j hj => Int.mul_nonneg (by have := le j (by omega); omega) (by omega)
      have h1 := key.2 z j hj
      rw [Nat.zero_add] at h1
      rcases Int.mul_eq_zero.mp h1 with y | y
      · omega
      · have := hf j
        omega)
    have n0 : s0 (cellsOf t) ≠ s0 (cellsOf u) := fun z => pos f0 (fun _ => Nat.one_pos) (by rw [← d0]; show ((s0 (cellsOf t) : Nat) : Int) - (s0 (cellsOf u) : Nat) = 0; omega)
    have n1 : s1 (cellsOf t) ≠ s1 (cellsOf u) := fun z => pos f1 (fun _ => Nat.succ_pos _) (by rw [← d1]; show ((s1 (cellsOf t) : Nat) : Int) - (s1 (cellsOf u) : Nat) = 0; omega)
    obtain ⟨j, hj, h1⟩ := g0 n0
    obtain ⟨k, hk, h2⟩ := g1 n1
    have := one _ _ (by omega) (by omega) h1 h2
    omega
end W9
namespace W9
open PySem PySem.Spec PyProof.Rows L2
/-! ### cells that lie below a sealed page at one place at most tell no other text -/
def Low1 (ws pg : List Nat) : Prop := ∀ q r, q < 256 → r < 256 → w0 ws q < w0 pg q → w0 ws r < w0 pg r → q = r
section
variable {ws t : List Nat} (ho : Ok ws) (hl : ws.length = 256) (ht : OkT t) (htl : t.length ≤ 113) (h1 : Low1 ws (sealT t))
include ht htl h1 in
theorem ge_told {u : List Nat} (hu : OkT u) (hul : u.length ≤ 113) (ge : ∀ q, q < 256 → w0 ws q ≤ w0 (sealT u) q) : u = t := Classical.byContradiction fun ne => by
  obtain ⟨p, q, hpq, hq, g1, g2⟩ := two_greater ht hu htl hul fun z => ne z.symm
  have a1 := ge p (by omega)
  have a2 := ge q hq
  have := h1 p q (by omega) hq (by omega) (by omega)
  omega
include ho hl ht htl h1 in
theorem lo_told : lo ws = .tuple [tx nE] ∨ lo ws = .tuple [tx nT] ∨ lo ws = .tuple [tx nW, tx t] ∨ ∃ p : Nat, lo ws = .tuple [tx nM, tx t, .int p] := by
  rw [← po_lo ho hl]
  unfold po
  by_cases hE : ws = List.replicate 256 15
  · rw [if_pos hE]; exact .inl rfl
  · rw [if_neg hE]
    have second : ∀ d, d = (match (match ft ws with | some r => some r | none => fs ws) with | none => PyData.tuple [tx nT] | some (t, p) => .tuple [tx nM, tx t, .int p]) → d = .tuple [tx nE] ∨ d = .tuple [tx nT] ∨ d = .tuple [tx nW, tx t] ∨ ∃ p : Nat, d = .tuple [tx nM, tx t, .int p] := by
      intro d hd
      rcases hf : ft ws with _ | ⟨u, p⟩
      · rcases hs : fs ws with _ | ⟨u, p⟩
        · rw [hf, hs] at hd
          exact .inr (.inl hd)
        · rw [hf, hs] at hd
          rcases hdc : dec ws with _ | t1
          · unfold fs at hs
            rw [hdc] at hs
            cases hs
          · rw [fs_fal ho hl hdc] at hs
            cases hfal : fal ws (sealT t1) with
            | none => rw [hfal] at hs; cases hs
            | some p' =>
              rw [hfal] at hs
              have hs : (t1, p') = (u, p) := Option.some.inj hs
              obtain ⟨e1, e2⟩ := Prod.mk.inj hs
              rw [← e1, ← e2] at hd
              obtain ⟨hq, hlt⟩ := fal_some hfal
              have hu := (unl_mem hq).2
              have e := ge_told ht htl h1 (dec_okT hdc) (dec_len (by omega) hdc) fun q hq => by
                by_cases z : w0 ws q = w0 (sealT t1) q
                · omega
                · have e := hu q (by omega) (by omega) z
                  rw [e]
                  omega
              rw [e] at hd
              exact .inr (.inr (.inr ⟨_, hd⟩))
      · rw [hf] at hd
        obtain ⟨a, b, c, _, hp, hd1, hw, _, _, _, hdc⟩ := ft_some hf
        have hL := lifted_len ho hl p
        have hs := ft_page ho hl hf
        have e := ge_told ht htl h1 (dec_okT hdc) (dec_len (by omega) hdc) fun q hq => by
          rw [hs]
          unfold lifted
          by_cases z : q = p
          · subst z
            rw [w0_set_same (by omega)]
            omega
          · rw [w0_set_ne fun y => z y.symm]
            exact Nat.le_refl _
        rw [e] at hd
        exact .inr (.inr (.inr ⟨_, hd⟩))
    rcases hdc : dec ws with _ | t1
    · dsimp only
      rw [if_neg Bool.false_ne_true]
      exact second _ rfl
    · dsimp only
      by_cases hs : sealT t1 = ws
      · rw [if_pos (decide_eq_true hs)]
        have e := ge_told ht htl h1 (dec_okT hdc) (dec_len (by omega) hdc) fun q _ => by rw [hs]; exact Nat.le_refl _
        rw [e]
        exact .inr (.inr (.inl rfl))
      · rw [if_neg (by rw [decide_eq_true_eq]; exact hs)]
        exact second _ rfl
end
/-! ### raised, fallen -/
def Up (a b : List Nat) : Prop := ∀ q, q < 256 → w0 a q ≤ w0 b q
theorem Up.low {a b pg : List Nat} (h : Up a b) (l : Low1 a pg) : Low1 b pg := fun q r hq hr g1 g2 => l q r hq hr (by have := h q hq; omega) (by have := h r hr; omega)
theorem Low1.refl (a : List Nat) : Low1 a a := fun q r _ _ g _ => by omega
/-- one cell otherwise, behind what is raised -/
theorem Low1.set {a pg : List Nat} {p v : Nat} (h : Up pg a) : Low1 (a.set p v) pg := fun q r hq hr g1 g2 => by
  have e : ∀ q, q < 256 → w0 (a.set p v) q < w0 pg q → q = p := fun q hq g => Classical.byContradiction fun z => by
    rw [w0_set_ne fun y => z y.symm] at g
    have := h q hq
    omega
  rw [e q hq g1, e r hr g2]
theorem Up.refl (a : List Nat) : Up a a := fun _ _ => Nat.le_refl _
theorem Up.trans {a b c : List Nat} (h : Up a b) (h2 : Up b c) : Up a c := fun q hq => Nat.le_trans (h q hq) (h2 q hq)
theorem Up.set {a b : List Nat} {p v : Nat} (hl : p < b.length) (h : Up a b) (hv : w0 a p ≤ v) : Up a (b.set p v) := fun q hq => by
  by_cases z : q = p
  · subst z; rw [w0_set_same hl]; exact hv
  · rw [w0_set_ne fun y => z y.symm]; exact h q hq
end W9
namespace W9
open PySem PySem.Spec PyProof.Rows L2
section
variable {X : Cx} {m : MS} {ds : DE} {e c a b tg elt iter : Expr} {es : List Expr} {pos : Pos}
/-- x in a tuple of data -/
theorem op_inTd (hu : X.A.units + 65 < cLine) : OpR X (compareOp .In) (fun x y H Q => ∃ d ds, Dp X.K H x d ∧ Dp X.K H y (.tuple ds) ∧ SeqAt.shaped d = true ∧ SeqAt.shaped (.tuple ds) = true ∧ Q (.bl (ds.any fun z => PyData.eqv z d)) H) := fun pins s σ H x y v u Q J rx ry ⟨d, ds, hd, he, sd, se, q⟩ => by
  obtain ⟨as, r1⟩ := Dp.reads J d x v hd rx
  obtain ⟨bs, r2⟩ := Dp.reads J (.tuple ds) y u he ry
  exact SeqAt.in_tuple_reads r2 r1 (SeqAt.canLay_of_shaped se) (SeqAt.canLay_of_shaped sd) (room_in_shaped sd hu) ⟨.bl _, H, J, rfl, q⟩
theorem cd_inT (hr : Rm 0 X.A) {d : PyData} {l : List PyData} (sd : SeqAt.shaped d = true) (se : SeqAt.shaped (.tuple l) = true) : CmpD X .In (.py d) (Tp l) (l.any fun z => PyData.eqv z d) := ⟨_, op_inTd (by have := hr.r.un; omega), fun m G H v u w r1 r2 Q q => by
  cases r1 with
  | py r1 => cases r2 with
    | py r2 => exact ⟨d, l, dp_mono w.w r1, dp_mono w.w r2, sd, se, q _ _ _ (.refl w) (.py (.bl _))⟩⟩
/-- min([x, y]) -/
theorem ca_minL2 (hc : X.calm = true) {x y : Int} : CaD X (.builtin "min") m [Ls [.int x, .int y]] (I (if y < x then y else x)) := ca_one (cr_min hc) fun G H v w r Q q => by
  obtain ⟨a, xs, rfl, h1, h2⟩ := ds_lst r
  have e : xs = [x, y].map V.int := dpa_ints (ns := [x, y]) h2
  rw [e] at h1
  refine ⟨a, [x, y], rfl, ex_l w.w h1, by simp, fun z hz hmin => ?_⟩
  have a1 := hmin x (by simp)
  have a2 := hmin y (by simp)
  have hz : z = x ∨ z = y := by simpa using hz
  have e : z = if y < x then y else x := by
    split <;> omega
  rw [e]
  exact q _ _ _ (.refl w) (.py (.int _))
/-- list(text), owned -/
theorem we_listSO {l : List Nat} {x : Str} {p : Pos} {P : SD → MS → Prop} (h : EE X e ds (S l)) (hz : l.length ≤ 1000000) (k : ∀ p, p ∉ ad m → P (.raw (.ref p)) ((p, .dl (l.map sgn)) :: m))
    (hm : X.mg x = none) (hv : bootBuiltins x = some (.type "list")) (hc : X.calm = true := by rfl) (hg : Gl X x := by rfl) (hn : x ≠ "__name__" := by decide) (hdb : (x == ("__debug__" : Str)) = false := by decide)
    (he : starEach (e :: []) X.env = (false, eval e X.env) :: starEach [] X.env := by rfl) (hpl : (backTo pos (starEach [] X.env)).any (·.1) = false := by rfl) : WE X (.Call (.Name x p) [e] [] pos) ds m P := fun σ G H E w Q q =>
  oE (pe_callTy (call_list_txt hc) hg hm hv (pA [e]) hn hdb he hpl) ((ea_cons h ea_nil he : EA X [e] ds _) m σ G H E w _ fun vs xs m1 G1 H1 g1 r1 ⟨e1, e2⟩ => by
    subst e1 e2
    cases r1 with
    | cons r1 r2 =>
      cases r2
      cases ds_str r1
      refine ⟨l, rfl, hz, fun p hp => ?_⟩
      have g2 := Gr.made (o := .lst (l.map fun c => V.str ⟨#[c]⟩)) (v := .dl (l.map sgn)) g1.wd hp ⟨_, rfl, dpa_signs l⟩
      exact q _ _ _ _ _ (g1.trans g2) (.raw _) (k p (List.nodup_cons.mp g2.wd.nd).1))
/-- text[::-1] -/
theorem rev_pick (l : List Nat) : ((Builtin.Str.strSliceIndices none none (-1) l.length).filterMap (l.toArray[·]?)) = l.reverse := by
  rw [PyProof.Rows.picked_rev, PyProof.Rows.filterMap_get _ _ (fun i hi => by
    obtain ⟨k, hk, rfl⟩ := List.mem_map.mp hi
    have := List.mem_range.mp hk
    rw [List.size_toArray]
    omega)]
  refine List.ext_getElem? fun i => ?_
  rw [List.map_map, List.getElem?_map]
  by_cases hi : i < l.length
  · rw [List.getElem?_range hi, List.getElem?_reverse hi]
    show some (l.toArray.getD (l.length - 1 - i) 0) = _
    have h2 : l.length - 1 - i < l.length := by omega
    rw [List.getElem?_eq_getElem h2]
    simp [Array.getD, h2]
  · rw [List.getElem?_eq_none (by rw [List.length_range]; omega), List.getElem?_eq_none (by rw [List.length_reverse]; omega)]
    rfl
def tRevS (te : TE) : TE := fun σ H Q => te σ H fun x H1 => ∃ l : List Nat, x = .str ⟨l.toArray⟩ ∧ l.length ≤ 1000000 ∧ Q (.str ⟨l.reverse.toArray⟩) H1
theorem pe_revS {te : TE} {k : Nat} {p1 p2 p3 : Pos} (he : PE X e te) : PE X (.Subscript e (.Slice none none (some (.UnaryOp .USub (.Constant (.int 1) k p1) p2)) p3) pos) (tRevS te) := by
  refine ⟨fun pins s σ H Q J h => Subscript_ (thn (he.run pins s σ H _ J h) fun v s1 ⟨x, H1, J1, r1, l, ex, hz, q⟩ => ?_)⟩
  subst ex
  obtain ⟨t, rfl⟩ := r1
  have hst : PO X (some (.UnaryOp .USub (.Constant (.int 1) k p1) p2)) (tPart (tUn (rU fun i => .int (-i)) (tC (.int 1)))) := po_some (pe_un un_neg pe_int)
  refine wpAny_Slice (thn (po_none.run pins s1 σ H1 (fun o H2 => o = none ∧ H2 = H1) J1 ⟨rfl, rfl⟩) fun vl s2 ⟨lo, H2, J2, pl, el, e2⟩ => ?_)
  subst el e2
  refine thn (po_none.run pins s2 σ H2 (fun o H3 => o = none ∧ H3 = H2) J2 ⟨rfl, rfl⟩) fun vu s3 ⟨up, H3, J3, pu, eu, e3⟩ => ?_
  subst eu e3
  refine thn (hst.run pins s3 σ H3 (fun o H4 => o = some (-1) ∧ H4 = H3) J3 ⟨1, rfl, -1, rfl, rfl, rfl⟩) fun vs s4 ⟨o, H4, J4, pst, eo, e4⟩ => ?_
  subst eo e4
  have J5 : Inv X pins σ H4 { s4 with heap := s4.heap.push { cls := .type "slice", data := .fields #[vl, vu, vs] } } := J4.kept (t' := s4.toks) fun b ob q => Heap.get?_push_of_some _ q
  obtain ⟨l1, rfl, hl1⟩ := IsPart.raw pl
  obtain ⟨u1, rfl, hu1⟩ := IsPart.raw pu
  obtain ⟨st1, rfl, hs1⟩ := IsPart.raw pst
  cases l1 with
  | some q => cases hl1
  | none => cases u1 with
    | some q => cases hu1
    | none => cases st1 with
      | none => cases hs1
      | some q0 =>
        obtain ⟨i0, w0_⟩ := q0
        have hi : i0 = -1 := Option.some.inj hs1
        subst hi
        show wpAny (model X.prog X.w) X.A (subscriptTail e (.Slice none none (some (.UnaryOp .USub (.Constant (.int 1) k p1) p2)) p3) (.str ⟨l.toArray⟩ t) (.ref s4.heap.objs.size)) (EP X pins σ Q) X.xe { s4 with heap := s4.heap.push { cls := .type "slice", data := .fields #[partValue none, partValue none, partValue (some (-1, w0_))] } }
        refine tail_any (ops := [.str ⟨l.toArray⟩ t, .ref s4.heap.objs.size]) (typeIs_str _ _ _) (F.slot_str_getitem.lookup) ?_ (by with_unfolding_all rfl)
        refine wpAny_getItem_str_slice (l := none) (u := none) (st := some (-1, w0_)) ⟨_, Heap.get?_push_size _ rfl, rfl, rfl⟩ rfl ?_
        have hn : ¬ (((-1 : Int) == 1 && (Builtin.Str.strSliceIndices none none (-1) (⟨l.toArray⟩ : Str).length).length == (⟨l.toArray⟩ : Str).length) = true) := by simp
        show Made.post (if ((-1 : Int) == 1 && (Builtin.Str.strSliceIndices none none (-1) (⟨l.toArray⟩ : Str).length).length == (⟨l.toArray⟩ : Str).length) = true then Made.val (.str ⟨l.toArray⟩ t)
          else Made.str ⟨((Builtin.Str.strSliceIndices none none (-1) (⟨l.toArray⟩ : Str).length).filterMap (l.toArray[·]?)).toArray⟩) (EP X pins σ Q) _
        rw [if_neg hn, str_len, rev_pick]
        exact ⟨by rw [str_len, List.length_reverse]; exact line_of hz, .str _, H4, J5.tok _, ⟨_, rfl⟩, q⟩
theorem ee_revS {ds : DE} {l : List Nat} {k : Nat} {p1 p2 p3 : Pos} (h : EE X e ds (S l)) (hz : l.length ≤ 1000000) : EE X (.Subscript e (.Slice none none (some (.UnaryOp .USub (.Constant (.int 1) k p1) p2)) p3) pos) ds (S l.reverse) := fun m σ G H E w Q q =>
  oE (pe_revS (pE e)) (h m σ G H E w _ fun v d m1 G1 H1 g1 r1 ⟨e1, e2⟩ => by
    subst e1 e2
    cases ds_str r1
    exact ⟨l, rfl, hz, q _ _ _ _ _ g1 (.py (.str _)) ⟨rfl, rfl⟩⟩)
end
end W9
namespace W9
open PySem PySem.Spec PyProof.Rows L2
section
variable {X : Cx} {m : MS} {ds : DE} {e c a b tg elt iter : Expr} {es : List Expr} {pos : Pos}
theorem ee_neg {i : Int} (h : EE X a ds (I i)) : EE X (.UnaryOp .USub a pos) ds (I (-i)) := fun m σ G H E w Q q => oE (pe_un un_neg (pE a)) (h m σ G H E w _ fun v d m1 G1 H1 g1 r1 ⟨e1, e2⟩ => by
  subst e1 e2
  cases ds_int r1
  exact ⟨i, rfl, q _ _ _ _ _ g1 (.py (.int _)) ⟨rfl, rfl⟩⟩)
abbrev cl (us : List Nat) : List PyData := (us.map dig).map sgn
theorem cl_len (us : List Nat) : (cl us).length = us.length := by rw [List.length_map, List.length_map]
theorem cl_set (us : List Nat) (p v : Nat) : (cl us).set p (.str ⟨([v].map dig).toArray⟩) = cl (us.set p v) := by
  show (List.map sgn (us.map dig)).set p (sgn (dig v)) = List.map sgn ((us.set p v).map dig)
  rw [List.map_set, List.map_set]
theorem sd_cl {us : List Nat} {i : Int} (h0 : 0 ≤ i) (h : i < us.length) : SubD X m (Ls (cl us)) (I i) (C [w0 us i.toNat]) := sd_lst (d := sgn (dig (w0 us i.toNat))) (at_nn h0 (by
  rw [List.getElem?_map, List.getElem?_map, w0_get (by omega)]
  rfl))
theorem md_joinCl {us : List Nat} (hz : us.length ≤ 1000000) : MtD X "str" "str.join" m (S []) [Ls (cl us)] (C us) := md_joinS (by rw [List.length_map]; exact hz)
/-- [elt for x, y in l if t] -/
theorem ee_lctf {α : Type} {j1 j2 : Nat} {x1 x2 : Str} {p1 p2 tpos : Pos} {kk : Nat} {scope : Scope} (l : List α) (g1 g2 : α → PyData) (p : α → Bool) (h : α → PyData) (own : List (Str × Nat)) (ho : own.map (·.2) = [j1, j2]) (hN : X.N.Nodup)
    (hi : EI X (.Tuple [.Name x1 p1, .Name x2 p2] kk tpos) iter ds (l.map fun a => Tp [g1 a, g2 a])) (hl : l.length ≤ 1000000)
    (test : ∀ a ∈ l, AllBlk X scope fun Y => ET Y c ((((ds.set j2 none).set j1 none).set j1 (some (.py (g1 a)))).set j2 (some (.py (g2 a)))) (p a))
    (turn : ∀ a ∈ l, p a = true → AllBlk X scope fun Y => EE Y elt ((((ds.set j2 none).set j1 none).set j1 (some (.py (g1 a)))).set j2 (some (.py (g2 a)))) (.py (h a)))
    (wg : ∀ s H C cl fp d1 d2 (ds : DE) m (Q : DE → MS → Prop), Q ((ds.set j1 (some (.py d1))).set j2 (some (.py d2))) m → WG (Blk X scope s H C cl fp) (.Tuple [.Name x1 p1, .Name x2 p2] kk tpos) [j1, j2] (Tp [d1, d2]) ds m Q)
    (ok : BlkOk X.N X.env.scope scope own) (hc : X.calm = true := by rfl) (hs : ∀ x, foldedSetIterable iter X.env x = pure x := by intro _; rfl) : EE X (.ListComp elt [⟨.Tuple [.Name x1 p1, .Name x2 p2] kk tpos, iter, [c], 0⟩] scope pos) ds (Ls ((l.filter p).map h)) := fun m =>
  we_lc own hN (hi.to ⟨by rw [List.length_map]; exact hl, fun i acc m' => acc = ((l.take i).filter p).map h ∧ m' = m, ⟨rfl, rfl⟩, fun i y acc m' hy _ ⟨e1, e2⟩ => by
    subst e1 e2
    rw [ho]
    obtain ⟨a, q, rfl⟩ := map_get hy
    have hm := List.mem_of_getElem? q
    refine fun s H C cl fp => wg _ _ _ _ _ _ _ _ _ _ fun s H C cl fp => wts_one ((test a hm s H C cl fp).to ?_)
    cases z : p a with
    | true =>
      rw [if_pos rfl]
      refine fun s H C cl fp => (turn a hm z s H C cl fp).to ⟨_, rfl, ?_, rfl⟩
      rw [List.take_add_one, q, List.filter_append, List.map_append]
      show _ = _ ++ ([a].filter p).map h
      rw [List.filter_cons_of_pos z]
      rfl
    | false =>
      rw [if_neg Bool.false_ne_true]
      refine ⟨?_, rfl⟩
      rw [List.take_add_one, q, List.filter_append, List.map_append]
      show _ = _ ++ ([a].filter p).map h
      rw [List.filter_cons_of_neg (by rw [z]; exact Bool.false_ne_true)]
      simp, fun acc m' _ ⟨e1, e2⟩ => by
    rw [List.length_map, List.take_length] at e1
    exact ⟨by rw [e1], e2⟩⟩) ok hc hs
end
/-! ### pieces of the table of cells -/
theorem hexS_eq : hexS = (List.range 16).map dig := rfl
theorem hex_from {k : Nat} (hk : k < 16) {d : PyData} (h : d ∈ (cut hexS (some (k : Int)) none).map sgn) : ∃ v, k ≤ v ∧ v < 16 ∧ d = .str ⟨([v].map dig).toArray⟩ := by
  rw [cut_n0, hexS_eq, ← List.map_drop] at h
  obtain ⟨x, hx, rfl⟩ := List.mem_map.mp h
  obtain ⟨v, hv, rfl⟩ := List.mem_map.mp hx
  obtain ⟨i, hi⟩ := List.mem_iff_getElem?.mp hv
  rw [List.getElem?_drop, List.getElem?_eq_some_iff] at hi
  obtain ⟨h1, h2⟩ := hi
  rw [List.length_range] at h1
  rw [List.getElem_range] at h2
  exact ⟨v, by omega, by omega, rfl⟩
theorem hex_from_len {k : Nat} (hk : k < 16) : 0 < ((cut hexS (some (k : Int)) none).map sgn).length ∧ ((cut hexS (some (k : Int)) none).map sgn).length < 1000000 := by
  rw [cut_n0, List.length_map, List.length_drop]
  simp only [List.length_cons, List.length_nil]
  omega
theorem hex_upto {k : Nat} (hk : k < 16) {d : PyData} (h : d ∈ (cut hexS none (some (k : Int))).map sgn) : ∃ v, v < k ∧ d = .str ⟨([v].map dig).toArray⟩ := by
  rw [cut_0n, hexS_eq, ← List.map_take] at h
  obtain ⟨x, hx, rfl⟩ := List.mem_map.mp h
  obtain ⟨v, hv, rfl⟩ := List.mem_map.mp hx
  obtain ⟨i, hi⟩ := List.mem_iff_getElem?.mp hv
  rw [List.getElem?_take] at hi
  split at hi
  · rw [List.getElem?_eq_some_iff] at hi
    obtain ⟨h1, h2⟩ := hi
    rw [List.getElem_range] at h2
    exact ⟨v, by omega, rfl⟩
  · cases hi
theorem hex_upto_len {k : Nat} (h0 : 0 < k) (hk : k < 16) : 0 < ((cut hexS none (some (k : Int))).map sgn).length ∧ ((cut hexS none (some (k : Int))).map sgn).length < 1000000 := by
  rw [cut_0n, List.length_map, List.length_take]
  simp only [List.length_cons, List.length_nil]
  omega
/-! ### torn -/
def torn (ws ps : List Nat) : List Nat := ws.zipIdx.map fun q => if w0 ps (q.2 % ps.length) ≤ q.1 then q.1 else w0 ps (q.2 % ps.length)
theorem torn_get {ws ps : List Nat} {i w : Nat} (h : ws[i]? = some w) : (torn ws ps)[i]? = some (if w0 ps (i % ps.length) ≤ w then w else w0 ps (i % ps.length)) := by
  unfold torn
  rw [List.getElem?_map, List.getElem?_zipIdx, h]
  show some _ = some _
  rw [Nat.zero_add]
theorem torn_len (ws ps : List Nat) : (torn ws ps).length = ws.length := by
  unfold torn
  rw [List.length_map, List.length_zipIdx]
theorem torn_ok {ws ps : List Nat} (ho : Ok ws) (ho2 : Ok ps) : Ok (torn ws ps) := fun x hx => by
  obtain ⟨i, hi⟩ := List.mem_iff_getElem?.mp hx
  have hl := get_lt hi
  rw [torn_len] at hl
  rw [torn_get (w0_get hl)] at hi
  have := w0_lt ho i
  have := w0_lt ho2 (i % ps.length)
  have := Option.some.inj hi
  split at this <;> omega
theorem torn_up {ws ps : List Nat} (hl : ws.length = 256) : Up ws (torn ws ps) := fun q hq => by
  have e := torn_get (ps := ps) (w0_get (ws := ws) (p := q) (by omega))
  rw [w0_of e]
  split <;> omega
end W9
namespace W9
open PySem PySem.Spec PyProof.Rows L2

/-! ### each second item -/
def alt {α : Type} : List α → List α
  | [] => []
  | [x] => [x]
  | x :: _ :: r => x :: alt r
theorem alt_map {α β : Type} (f : α → β) : ∀ l : List α, alt (l.map f) = (alt l).map f
  | [] => rfl
  | [_] => rfl
  | x :: _ :: r => congrArg (f x :: ·) (alt_map f r)
theorem alt_pick {α : Type} : ∀ (l : List α) (b n : Nat), n = (l.length - b + 1) / 2 → ((List.range n).map fun k => b + 2 * k).filterMap (fun i => l[i]?) = alt (l.drop b)
  | l, b, 0, h => by
    rw [List.drop_eq_nil_of_le (by omega)]
    rfl
  | l, b, n + 1, h => by
    have hb : b < l.length := by omega
    rw [List.range_succ_eq_map, List.map_cons, List.map_map, List.filterMap_cons_some (b := l[b]) (by show l[b + 2 * 0]? = _; rw [Nat.mul_zero, Nat.add_zero, List.getElem?_eq_getElem hb])]
    have ih := alt_pick l (b + 2) n (by omega)
    have e : (List.range n).map ((fun k => b + 2 * k) ∘ Nat.succ) = (List.range n).map fun k => b + 2 + 2 * k := List.map_congr_left fun k _ => by
      show b + 2 * (k + 1) = _
      omega
    rw [e, ih, List.drop_eq_getElem_cons hb]
    by_cases h2 : b + 1 < l.length
    · rw [List.drop_eq_getElem_cons h2]
      rfl
    · rw [List.drop_eq_nil_of_le (by omega), List.drop_eq_nil_of_le (by omega)]
      rfl
theorem alt_bounds (b n : Nat) : sliceBounds (some (b : Int)) none (some 2) n = (((min b n : Nat) : Int), (n : Int), 2) := by
  unfold sliceBounds
  simp only [Option.getD_some, show (2 : Int) > 0 from by decide, if_true, show ¬ ((b : Int) < 0) from by omega, if_false]
  congr 1
  omega
theorem alt_items (items : Array Value) (b : Nat) : slicePick items (some (b : Int)) none (some 2) = (alt (items.toList.drop b)).toArray := by
  unfold slicePick
  rw [alt_bounds]
  congr 1
  have e : sliceRange ((min b items.size : Nat) : Int) (items.size : Int) 2 = (List.range ((items.size - b + 1) / 2)).map fun k => b + 2 * k := by
    unfold sliceRange
    rw [if_pos (by decide)]
    by_cases h : b < items.size
    · rw [if_pos (by omega)]
      have e1 : (((items.size : Int) - ((min b items.size : Nat) : Int) + 2 - 1) / 2).toNat = (items.size - b + 1) / 2 := by omega
      show List.map _ (List.range (((items.size : Int) - ((min b items.size : Nat) : Int) + 2 - 1) / 2).toNat) = _
      rw [e1]
      refine List.map_congr_left fun k _ => ?_
      omega
    · rw [if_neg (by omega), show (items.size - b + 1) / 2 = 0 by omega]
      rfl
  rw [e]
  have q := alt_pick items.toList b ((items.size - b + 1) / 2) (by rw [Array.length_toList])
  rw [← q]
  exact congrArg (fun f => List.filterMap f _) (funext fun i => Array.getElem?_toList.symm)
theorem vals_alt : ∀ {vs : List V} {us : List Value}, Vals vs us → Vals (alt vs) (alt us)
  | _, _, .nil => .nil
  | _, _, .cons h .nil => .cons h .nil
  | _, _, .cons h (.cons _ r) => .cons h (vals_alt r)
theorem dpa_alt {K : PySem.W.Frag} {G : Hp} : ∀ {vs : List V} {l : List PyData}, DpAll K G vs l → DpAll K G (alt vs) (alt l)
  | _, _, .nil => .nil
  | _, _, .cons h .nil => .cons h .nil
  | _, _, .cons h (.cons _ r) => .cons h (dpa_alt r)
theorem alt_le {α : Type} : ∀ l : List α, (alt l).length ≤ l.length
  | [] => Nat.le_refl _
  | [_] => Nat.le_refl _
  | x :: y :: r => by
    have := alt_le r
    simp only [alt, List.length_cons]
    omega
theorem alt_len {α : Type} : ∀ l : List α, (alt l).length = (l.length + 1) / 2
  | [] => by show 0 = (0 + 1) / 2; decide
  | [_] => by show 1 = (1 + 1) / 2; decide
  | x :: y :: r => by
    have := alt_len r
    simp only [alt, List.length_cons, this]
    omega
section
variable {X : Cx} {e lo st : Expr} {te tl ts : TE} {pos p3 : Pos}
/-- items[lo::2] of a list -/
def tAlt (K : PySem.W.Frag) (te : TE) (tl ts : TO) : TE := fun σ H Q => te σ H fun x H1 => ∃ (a : Addr) (xs : List V), x = .ref a ∧ tl σ H1 fun l H2 => ∃ b : Nat, l = some (b : Int) ∧ ts σ H2 fun t H3 => t = some 2 ∧ SqL K H3 a xs ∧ ∀ p, H3 p = none → Q (.ref p) (upd H3 p (.lst (alt (xs.drop b))))
theorem pe_alt {tl ts : TO} (he : PE X e te) (hl : PO X (some lo) tl) (hs : PO X (some st) ts) : PE X (.Subscript e (.Slice (some lo) none (some st) p3) pos) (tAlt X.K te tl ts) := ⟨fun pins s σ H Q J h => by
  refine Subscript_ (thn (he.run pins s σ H _ J h) fun v s1 ⟨x, H1, J1, r1, a, xs, ex, q1⟩ => ?_)
  subst ex
  cases r1
  refine wpAny_Slice (thn (hl.run pins s1 σ H1 _ J1 q1) fun vl s2 ⟨l, H2, J2, pl, b, el, q2⟩ => ?_)
  subst el
  refine thn (po_none.run pins s2 σ H2 (fun o H3 => o = none ∧ H3 = H2) J2 ⟨rfl, rfl⟩) fun vu s3 ⟨u, H3, J3, pu, eu, e3⟩ => ?_
  subst eu e3
  refine thn (hs.run pins s3 σ H3 _ J3 q2) fun vs s4 ⟨o, H4, J4, pt, eo, hx, q⟩ => ?_
  subst eo
  have J5 : Inv X pins σ H4 { s4 with heap := s4.heap.push { cls := .type "slice", data := .fields #[vl, vu, vs] } } := J4.kept (t' := s4.toks) fun b ob q => Heap.get?_push_of_some _ q
  obtain ⟨its, r, ht, hz⟩ := J5.list hx
  have hlen := r.length
  show wpAny _ X.A (subscriptTail e _ (.ref a) (.ref s4.heap.objs.size)) (EP X pins σ Q) X.xe { s4 with heap := _ }
  refine tail_any (ops := [.ref a, .ref s4.heap.objs.size]) ht.isList.typeIs (PySem.slot_list_getitem.lookup) ?_ (by with_unfolding_all rfl)
  refine wpAny_getItem_list_slice ht.isList (Heap.IsSliceOf.new _ vl vu vs) pl pu pt (by decide) ?_ (by rw [List.size_toArray]; omega)
  rw [alt_items]
  have rr : Vals (alt (xs.drop b)) (alt (its.drop b)) := vals_alt (r.drop b)
  exact ⟨.ref _, _, J5.laid (t' := s4.toks) (o := .lst (alt (xs.drop b))) (fun b ob q => Heap.get?_push_of_some _ q) (Nat.le_refl _)
    ⟨by have := alt_le (xs.drop b); rw [List.length_drop] at this; omega, _, 0, rr, Heap.get?_push_size _ rfl⟩, rfl, q _ (J5.hok.fresh (Nat.le_refl _))⟩⟩
theorem ee_alt {ds : DE} {l : List PyData} {b : Nat} (h : EE X e ds (Ls l)) (h1 : EO X (some lo) ds (some (b : Int))) (h2 : EO X (some st) ds (some 2)) : EE X (.Subscript e (.Slice (some lo) none (some st) p3) pos) ds (Ls (alt (l.drop b))) := fun m σ G H E w Q q =>
  oE (pe_alt (tl := wP X (some lo)) (ts := wP X (some st)) (pE e) ⟨fun pins s σ H Q I h => h pins s I⟩ ⟨fun pins s σ H Q I h => h pins s I⟩) (h m σ G H E w _ fun v d m1 G1 H1 g1 r1 ⟨e1, e2⟩ => by
    subst e1 e2
    obtain ⟨a, xs, rfl, p1, p2⟩ := ds_lst r1
    refine ⟨a, xs, rfl, h1 m1 σ G1 H1 (E.mono g1.g) g1.wd _ fun o m2 G2 H2 g2 ⟨e1, e2⟩ => ⟨b, e1, ?_⟩⟩
    subst e2
    refine h2 m2 σ G2 H2 (E.mono (g1.trans g2).g) g2.wd _ fun o m3 G3 H3 g3 ⟨e3, e4⟩ => ⟨e3, ?_⟩
    subst e4
    refine ⟨ex_l ((g2.trans g3).g.trans g3.wd.w) p1, fun p hp => ?_⟩
    have g4 := Gr.new (o := .lst (alt (xs.drop b))) g3.wd hp
    exact q _ _ _ _ _ (((g1.trans g2).trans g3).trans g4) (.py (.lst (SqL.of upd_same) (dpa_alt (dpa_drop b (dpa_mono ((g2.trans g3).trans g4).g p2))))) ⟨rfl, rfl⟩)
end
end W9
/-! list(zip(a, b)) of two lists -/
namespace W9
open PySem PySem.Spec PyProof.Rows L2
/-- new objects, one behind another -/
def addAll (H : Hp) : List (Addr × HO) → Hp
  | [] => H
  | q :: r => addAll (upd H q.1 q.2) r
theorem addAll_ne {a : Addr} : ∀ {L : List (Addr × HO)} {H : Hp}, a ∉ L.map (·.1) → addAll H L a = H a
  | [], _, _ => rfl
  | q :: r, H, h => by
    rw [List.map_cons, List.mem_cons, not_or] at h
    exact (addAll_ne h.2).trans (upd_ne h.1)
theorem un_all {fs : List Addr} {H : Hp} {h h' : Heap} : ∀ (L : List (Addr × HO)) (H1 : Hp), Un fs [] H H1 h h' → (∀ q ∈ L, h.get? q.1 = none ∧ H1 q.1 = none) → (L.map (·.1)).Nodup → Un fs [] H (addAll H1 L) h h'
  | [], _, u, _, _ => u
  | q :: r, H1, u, hf, nd => by
    obtain ⟨f1, f2⟩ := hf q List.mem_cons_self
    rw [List.map_cons, List.nodup_cons] at nd
    have ne : ∀ {b : Addr} {o : HO}, H1 b = some o → b ≠ q.1 := fun e z => by rw [z, f2] at e; cases e
    refine un_all r _ ⟨u.keep, u.slot, fun b o e n x => ?_, u.there, fun b xs e => ?_, fun b o v e => ?_, fun b ps e => ?_⟩ (fun p hp => ⟨(hf p (List.mem_cons_of_mem _ hp)).1, ?_⟩) nd.2
    · rw [upd_ne (fun z => by rw [z, f1] at e; cases e)]
      exact u.free b o e n x
    · have e1 := u.tups b xs e
      rw [upd_ne (ne e1)]
      exact e1
    · have e1 := u.frzs b o v e
      rw [upd_ne (ne e1)]
      exact e1
    · obtain ⟨more, e1⟩ := u.tbls b ps e
      exact ⟨more, by rw [upd_ne (ne e1)]; exact e1⟩
    · rw [upd_ne (fun z => nd.1 (by rw [← z]; exact List.mem_map_of_mem hp))]
      exact (hf p (List.mem_cons_of_mem _ hp)).2
theorem hok_all {P : Program} {w : World} {h' : Heap} : ∀ (L : List (Addr × HO)) (H1 : Hp), HOk P w H1 h' → (∀ q ∈ L, H1 q.1 = none ∧ ∀ Hx, ObjOk P w Hx h' q.1 q.2) → (L.map (·.1)).Nodup → HOk P w (addAll H1 L) h'
  | [], _, u, _, _ => u
  | q :: r, H1, u, hf, nd => by
    obtain ⟨f1, f2⟩ := hf q List.mem_cons_self
    rw [List.map_cons, List.nodup_cons] at nd
    refine hok_all r _ (u.laidN (fun _ _ e => e) f1 (f2 _)) (fun p hp => ⟨?_, (hf p (List.mem_cons_of_mem _ hp)).2⟩) nd.2
    rw [upd_ne (fun z => nd.1 (by rw [← z]; exact List.mem_map_of_mem hp))]
    exact (hf p (List.mem_cons_of_mem _ hp)).1
section
variable {P : Program} {w : World} {A : Around} {E : Value → Shared → Prop} {s : Shared}
/-- the pairs so far -/
inductive Prs (h : Heap) (bad : List Addr) : List Addr → List Value → List Value → Prop
  | nil : Prs h bad [] [] []
  | snoc {Ts xs ys T x y} : Prs h bad Ts xs ys → IsPair h T x y → T ∉ Ts → T ∉ bad → Prs h bad (Ts ++ [T]) (xs ++ [x]) (ys ++ [y])
theorem Prs.keep {h h' : Heap} {bad : List Addr} (k : ∀ b o, b ∉ bad → h.get? b = some o → h'.get? b = some o) : ∀ {Ts xs ys}, Prs h bad Ts xs ys → Prs h' bad Ts xs ys
  | _, _, _, .nil => .nil
  | _, _, _, .snoc p q n b => .snoc (p.keep k) (k _ _ b q) n b
theorem Prs.here {h : Heap} {bad : List Addr} : ∀ {Ts xs ys}, Prs h bad Ts xs ys → ∀ T ∈ Ts, ∃ o, h.get? T = some o
  | _, _, _, .snoc p q n b, T, hT => by
    rcases List.mem_append.mp hT with z | z
    · exact p.here T z
    · rw [List.mem_singleton.mp z]
      exact ⟨_, q⟩
theorem prs_bad {h : Heap} {bad : List Addr} : ∀ {Ts xs ys}, Prs h bad Ts xs ys → ∀ T, T ∈ Ts → T ∉ bad
  | _, _, _, .snoc p q n b, T, hT => by
    rcases List.mem_append.mp hT with z | z
    · exact prs_bad p T z
    · rw [List.mem_singleton.mp z]
      exact b
theorem prs_len {h : Heap} {bad : List Addr} : ∀ {Ts xs ys}, Prs h bad Ts xs ys → xs.length = Ts.length
  | _, _, _, .nil => rfl
  | _, _, _, .snoc p q n b => by rw [List.length_append, List.length_append, prs_len p]; rfl
theorem prs_nodup {h : Heap} {bad : List Addr} : ∀ {Ts xs ys}, Prs h bad Ts xs ys → Ts.Nodup
  | _, _, _, .nil => List.nodup_nil
  | _, _, _, .snoc p q n b => by
    refine List.nodup_append.mpr ⟨prs_nodup p, by simp, fun a ha c hc e => ?_⟩
    rw [List.mem_singleton.mp hc] at e
    exact n (e ▸ ha)
/-- where the zip stands: nothing handed out, or its tuple is still out -/
def ZAt (h : Heap) (z TI TO : Addr) : Prop := (IsZip h z TI TO .none ∧ ∃ a b, IsPair h TO a b) ∨ ∃ T f o, PySem.IsZipHeld h z TI TO T f ∧ h.get? T = some o
structure ZS (h0 h : Heap) (z TI TO i1 i2 l1 l2 S : Addr) (xs ys : Array Value) (i : Nat) (Ts : List Addr) : Prop where
  at_ : ZAt h z TI TO
  ti : IsPair h TI (.ref i1) (.ref i2)
  j1 : h.IsListIter i1 l1 i
  j2 : h.IsListIter i2 l2 i
  k1 : h.IsList l1 xs
  k2 : h.IsList l2 ys
  pr : Prs h [z, TO, i1, i2, S] Ts (xs.toList.take i) (ys.toList.take i)
  le : ∀ T ∈ Ts, h0.objs.size ≤ T
  old : ∀ b o, h0.get? b = some o → h.get? b = some o

theorem take_snoc {α : Type} {l : List α} {i : Nat} {x : α} (h : l[i]? = some x) : l.take (i + 1) = l.take i ++ [x] := by rw [List.take_add_one, h]; rfl
theorem zl_step {h0 h h' : Heap} {z TI TO i1 i2 l1 l2 S : Addr} {xs ys : Array Value} {i : Nat} {Ts : List Addr} {x y : Value} {T : Addr} (D : ZipApart z TI TO i1 i2 l1 l2) (hS : S ∉ [z, TI, TO, i1, i2, l1, l2])
    (hz : h0.objs.size ≤ z) (hTO : h0.objs.size ≤ TO) (h1z : h0.objs.size ≤ i1) (h2z : h0.objs.size ≤ i2) (Z : ZS h0 h z TI TO i1 i2 l1 l2 S xs ys i Ts) (hx : xs[i]? = some x) (hy : ys[i]? = some y) (hT : T = h.objs.size)
    (at_ : ZAt h' z TI TO) (a3 : h'.IsListIter i1 l1 (i + 1)) (a4 : h'.IsListIter i2 l2 (i + 1)) (a5 : IsPair h' T x y) (hs : ∃ o, h.get? S = some o) (hO : ∃ o, h.get? TO = some o) (hzz : ∃ o, h.get? z = some o)
    (k : ∀ c o, c ≠ z → c ≠ TO → c ≠ i1 → c ≠ i2 → h.get? c = some o → h'.get? c = some o) : ZS h0 h' z TI TO i1 i2 l1 l2 S xs ys (i + 1) (Ts ++ [T]) := by
  have lt : ∀ {c o}, h.get? c = some o → c ≠ T := fun e q => Nat.lt_irrefl _ (Nat.lt_of_lt_of_le (Heap.lt_size e) (Nat.le_of_eq (hT ▸ q ▸ rfl)))
  refine ⟨at_, k _ _ D.TIz D.TITO D.TIi1 D.TIi2 Z.ti, a3, a4, Z.k1.at fun o e => k _ o D.l1z D.l1TO D.l1i1 D.l1i2 e, Z.k2.at fun o e => k _ o D.l2z D.l2TO D.l2i1 D.l2i2 e, ?_, ?_, ?_⟩
  · rw [take_snoc (x := x) (by rw [Array.getElem?_toList]; exact hx), take_snoc (x := y) (by rw [Array.getElem?_toList]; exact hy)]
    refine .snoc (Z.pr.keep fun b o hb e => ?_) a5 (fun q => ?_) fun q => ?_
    · simp only [List.mem_cons, List.not_mem_nil, or_false, not_or] at hb
      exact k b o hb.1 hb.2.1 hb.2.2.1 hb.2.2.2.1 e
    · obtain ⟨o, e⟩ := Z.pr.here T q
      exact lt e rfl
    · simp only [List.mem_cons, List.not_mem_nil, or_false] at q
      rcases q with q | q | q | q | q
      · obtain ⟨o, e⟩ := hzz
        exact lt e q.symm
      · obtain ⟨o, e⟩ := hO
        exact lt e q.symm
      · obtain ⟨o, e, _⟩ := Z.j1
        exact lt e q.symm
      · obtain ⟨o, e, _⟩ := Z.j2
        exact lt e q.symm
      · obtain ⟨o, e⟩ := hs
        exact lt e q.symm
  · intro T' hT'
    rcases List.mem_append.mp hT' with q | q
    · exact Z.le T' q
    · rw [List.mem_singleton.mp q, hT]
      rcases Nat.lt_or_ge h.objs.size h0.objs.size with w | w
      · obtain ⟨o, e⟩ := hzz
        exact absurd (Heap.lt_size e) (Nat.not_lt_of_le (Nat.le_trans (Nat.le_of_lt w) hz))
      · exact w
  · intro b o e
    have lb := Heap.lt_size e
    exact k b o (Nat.ne_of_lt (Nat.lt_of_lt_of_le lb hz)) (Nat.ne_of_lt (Nat.lt_of_lt_of_le lb hTO)) (Nat.ne_of_lt (Nat.lt_of_lt_of_le lb h1z)) (Nat.ne_of_lt (Nat.lt_of_lt_of_le lb h2z)) (Z.old b o e)
/-- the list that gathers grows -/
theorem ZS.push {h0 h h' : Heap} {z TI TO i1 i2 l1 l2 S : Addr} {xs ys : Array Value} {i : Nat} {Ts : List Addr} (Z : ZS h0 h z TI TO i1 i2 l1 l2 S xs ys i Ts) (hS : S ∉ [z, TI, TO, i1, i2, l1, l2]) (hSz : h0.objs.size ≤ S)
    (k : ∀ c o, c ≠ S → h.get? c = some o → h'.get? c = some o) (th : ∃ o, h'.get? S = some o) : ZS h0 h' z TI TO i1 i2 l1 l2 S xs ys i Ts := by
  simp only [List.mem_cons, List.not_mem_nil, or_false, not_or] at hS
  obtain ⟨s1, s2, s3, s4, s5, s6, s7⟩ := hS
  refine ⟨?_, k _ _ (Ne.symm s2) Z.ti, Z.j1.at fun o e => k _ _ (Ne.symm s4) e, Z.j2.at fun o e => k _ _ (Ne.symm s5) e, Z.k1.at fun o e => k _ _ (Ne.symm s6) e, Z.k2.at fun o e => k _ _ (Ne.symm s7) e, Z.pr.keep fun b o hb e => k b o (fun q => hb (q ▸ by simp)) e, Z.le, fun b o e => k b o (Nat.ne_of_lt (Nat.lt_of_lt_of_le (Heap.lt_size e) hSz)) (Z.old b o e)⟩
  rcases Z.at_ with ⟨q1, a, b, q2⟩ | ⟨T, f, o, q1, q2⟩
  · exact .inl ⟨k _ _ (Ne.symm s1) q1, a, b, k _ _ (Ne.symm s3) q2⟩
  · by_cases e : T = S
    · obtain ⟨o', th⟩ := th
      exact .inr ⟨T, f, o', k _ _ (Ne.symm s1) q1, e ▸ th⟩
    · exact .inr ⟨T, f, o, k _ _ (Ne.symm s1) q1, k _ _ e q2⟩
end
end W9
namespace W9
open PySem PySem.Spec PyProof.Rows L2
section
variable {P : Program} {w : World} {A : Around} {E : Value → Shared → Prop} {s : Shared}
/-- set(list of texts) -/
theorem set_call {q : Addr} {items : Array Value} {xs : List Str} {Q : Value → Shared → Prop} (hh : A.handled = none) (hq : s.heap.IsList q items) (hi : StrsAre items.toList xs) (hb : xs.length + 1 < scanBound)
    (h : ∀ h' tk l, Bag P w s.heap.objs.size l h' → (∀ z, z ∈ l ↔ z ∈ xs) → l.length ≤ xs.length → (∀ b o, s.heap.get? b = some o → h'.get? b = some o) → Q (.ref s.heap.objs.size) { s with heap := h', toks := tk }) :
    wpAny (model P w) A (call (.type "set") [.ref q]) Q E s := by
  obtain ⟨cc, tl, m1⟩ := PySem.F.called_set.mro
  have m2 := PySem.F.called_set.made
  have m3 := PySem.F.called_set.sub
  have m4 := PySem.F.called_set.notType
  have m5 := PySem.F.called_set.canCreate
  have m6 := PySem.F.typeCall_set_1 (.ref q)
  refine wpAny_call (codeAny_of_tree (wpAny_pure ?_))
  refine ⟨Code.quiet_builtin _ (by decide +kernel), codeAny_builtin PySem.F.entry_type_call ?_⟩
  rw [Around.under_plain (weight_type_call_type "set" [.ref q] []) rfl]
  repeat (any_goals (first | assumption | wp_step))
  refine codeAny_mono (code_set_led1 (E := E) (.ref q) (Q₁ := fun v s1 => v = .ref s.heap.objs.size ∧ s1 = withSet w s) ⟨rfl, rfl⟩) fun r s1 hr => ?_
  match r, hr with
  | .error e, hr => exact hr
  | .ok (.ret v), hr =>
    obtain ⟨e1, e2⟩ := hr
    subst e1 e2
    have hT : Shared.TypeIs (withSet w s) (.ref s.heap.objs.size) "set" := ⟨_, with_at, rfl⟩
    have l1 := PySem.F.called_set.init.lookup
    have l2 := PySem.F.called_set.init.bind (.ref s.heap.objs.size)
    repeat (any_goals (first | assumption | wp_step))
    refine codeAny_mono (set_init (E := E) (by simp [hh]) hq hi hb) fun r2 s2 h2 => ?_
    match r2, h2 with
    | .error e, h2 => exact h2
    | .ok (.ret v2), h2 =>
      obtain ⟨e1, h', tk, l, e2, b1, b2, b3, b4⟩ := h2
      subst e1 e2
      repeat (any_goals (first | assumption | wp_step))
      exact h _ _ _ b1 b2 b3 b4
    | .ok .next, h2 => exact h2.elim
    | .ok .brk, h2 => exact h2.elim
    | .ok .cont, h2 => exact h2.elim
  | .ok .next, hr => exact hr.elim
  | .ok .brk, hr => exact hr.elim
  | .ok .cont, hr => exact hr.elim
/-- sorted(set of texts) -/
theorem bag_strs {es : Array (Int × Value)} (hel : ElemsOf (strKind P w) es.toList) : ∀ vs : List Value, (∀ v ∈ vs, ∃ e ∈ es.toList, e.2 = v) → ∃ ss, StrsAre vs ss
  | [], _ => ⟨[], .nil⟩
  | v :: vs, h => by
    obtain ⟨e, e1, e2⟩ := h v List.mem_cons_self
    obtain ⟨⟨k, k1, _⟩, _⟩ := hel e e1
    obtain ⟨t, ev⟩ := Value.isStrOf_shape (show Value.isStrOf k e.2 = true from k1)
    obtain ⟨ss, hs⟩ := bag_strs hel vs fun u hu => h u (List.mem_cons_of_mem _ hu)
    rw [e2] at ev
    subst ev
    exact ⟨k :: ss, .cons k t hs⟩
theorem strs_len {us : List Value} {xs : List Str} (h : StrsAre us xs) : us.length = xs.length := StrsAre.len_eq h
theorem strs_mem {us : List Value} {xs : List Str} (h : StrsAre us xs) (k : Str) : k ∈ xs ↔ ∃ u ∈ us, Value.isStrOf k u = true := by
  induction h with
  | nil => simp
  | cons x t r ih =>
    have e : Value.isStrOf k (.str x t) = true ↔ k = x := ⟨fun h => by
      obtain ⟨t', z⟩ := Value.isStrOf_shape h
      cases z
      rfl, fun h => by
      subst h
      simp [Value.isStrOf]⟩
    rw [List.mem_cons, ih]
    constructor
    · rintro (rfl | ⟨u, h1, h2⟩)
      · exact ⟨_, List.mem_cons_self, e.mpr rfl⟩
      · exact ⟨u, List.mem_cons_of_mem _ h1, h2⟩
    · rintro ⟨u, h1, h2⟩
      rcases List.mem_cons.mp h1 with q | q
      · subst q
        exact .inl (e.mp h2)
      · exact .inr ⟨u, q, h2⟩
theorem sorted_bag {a : Addr} {l : List Str} {Q : Value → Shared → Prop} (b : Bag P w a l s.heap) (hh : A.handled = none) (h64 : l.length < 64)
    (hQ : ∀ s' p (out : Array Value) (n : Nat) (ss : List Str), (∀ b o, s.heap.get? b = some o → s'.heap.get? b = some o) → s'.gens = s.gens → s'.os = s.os → s.heap.objs.size ≤ p → s'.heap.get? p = some (seqObj "list" out n) →
      StrsAre out.toList ss → sortedS ss = true → (∀ k, k ∈ ss ↔ k ∈ l) → ss.length = l.length → Q (.ref p) s') :
    wpAny (model P w) A (call (.builtin "sorted") [.ref a]) Q E s := by
  obtain ⟨⟨es, ep, t⟩, h1, F, h3, h4, h5⟩ := b
  have sz : es.size = l.length := F.sz
  have sb : es.size < scanBound := Nat.lt_trans (sz ▸ h64) (by decide)
  refine Calls.call_function_entry kind_sorted plain_sorted entry_sorted (args_sorted1 _) ?_
  unfold Builtin.«sorted»
  refine wpAny_bind (m := checkCount "sorted" 1 1 _) (wpAny_pure (wpAny_bind ?_))
  refine L2.collect_set (A := A.in1) hh ⟨_, h1, rfl, rfl⟩ F.fit sb h3 h4 fun s1 vs k1 z1 g1 o1 pm => ?_
  have hvl : vs.length = l.length := by rw [pm.length_eq, List.length_map, Array.length_toList, sz]
  obtain ⟨ss, hS⟩ := bag_strs F.el vs fun v hv => by
    obtain ⟨e, e1, e2⟩ := List.mem_map.mp (pm.mem_iff.mp hv)
    exact ⟨e, e1, e2⟩
  have hm : ∀ k, k ∈ ss ↔ k ∈ l := fun k => by
    rw [strs_mem hS, F.mem]
    constructor
    · rintro ⟨u, u1, u2⟩
      obtain ⟨e, e1, e2⟩ := List.mem_map.mp (pm.mem_iff.mp u1)
      exact ⟨e, e1, by rw [e2]; exact u2⟩
    · rintro ⟨e, e1, e2⟩
      exact ⟨e.2, pm.mem_iff.mpr (List.mem_map_of_mem e1), e2⟩
  refine wpAny_bind (wpAny_newList ?_ (by rw [hvl, sizeLine_eq]; omega))
  have hL : (s1.heap.push (seqObj "list" vs.toArray 0)).get? s1.heap.objs.size = some (seqObj "list" vs.toArray 0) := Heap.get?_push_size _ rfl
  refine wpAny_bind (wpAny_holding (wpAny_call_entry slot_list_sort ⟨_, hL, rfl⟩ entry_list_sort ?_ (args_list_sort _)))
  refine list_sort_treeK (s := { s1 with heap := s1.heap.push (seqObj "list" vs.toArray 0) }) strKind_oneLt hL hS.keysOf (fun v₁ v₂ rest e => keyKind_strs (by rw [← e]; exact hS)) (by rw [hvl]; exact h64) fun st hp hs => ⟨_, rfl, ?_⟩
  obtain ⟨ys, y1, y2, y3⟩ := sorted_out_str hS hp hs
  obtain ⟨n, hn⟩ := sortedHeap_at (vs := vs) (out := (arrOf st).map (·.2)) hL
  refine wpAny_pure ⟨_, rfl, hQ _ s1.heap.objs.size _ n ys (fun b u e => ?_) g1 o1 z1 hn y1 y3 (fun k => by rw [y2.mem_iff, hm]) (by rw [y2.length_eq, ← strs_len hS, hvl])⟩
  have q := k1 b u e
  have lb := Heap.lt_size q
  refine Eq.trans (sortedHeap_old (Nat.ne_of_lt lb) ?_) (Heap.get?_push_of_some _ q)
  rw [size_push']
  exact Nat.lt_succ_of_lt lb
end
/-- the set of texts, tracked -/
def SetTx (P : Program) (w : World) (a : Addr) (l : List Str) : HO := .ext fun h => Bag P w a l h
section
variable {X : Cx}
def rSetT (K : PySem.W.Frag) (P : Program) (w : World) : List V → Hp → VK → Prop := fun vs H Q => ∃ (q : Addr) (xs : List Str), vs = [.ref q] ∧ SqL K H q (xs.map V.str) ∧ xs.length < 1000 ∧
  ∀ l p, (∀ z, z ∈ l ↔ z ∈ xs) → l.Nodup → l.length ≤ xs.length → H p = none → Q (.ref p) (upd H p (SetTx P w p l))
theorem cr_setT (hc : X.calm = true) : CallR X (.type "set") (rSetT X.K X.prog X.w) := fun pins s σ H vs us Q J r ⟨q, xs, e1, h1, hl, k⟩ => by
  subst e1
  obtain ⟨its, rv, p1, _⟩ := J.list h1
  rw [Vals.ref1 r]
  refine set_call (J.ok.hd hc) p1.isList (xs := xs) rv.strs (by have : scanBound = 4096 := rfl; omega) fun h' tk l b1 b2 b3 b4 => ?_
  refine ⟨.ref _, upd H s.heap.objs.size (SetTx X.prog X.w s.heap.objs.size l), J.laid (t' := tk) b4 (Nat.le_refl _) ?_, rfl, k l _ b2 (let ⟨_, _, _, _, _, nd⟩ := b1; nd) b3 (J.hok.fresh (Nat.le_refl _))⟩
  obtain ⟨D, d1, _⟩ := id b1
  exact ⟨b1, ⟨_, d1⟩, fun h1 h2 p k => p.keep k⟩
def rSortT (P : Program) (w : World) : List V → Hp → VK → Prop := fun vs H Q => ∃ (a : Addr) (l : List Str), vs = [.ref a] ∧ H a = some (SetTx P w a l) ∧ l.length < 64 ∧
  ∀ ss p, sortedS ss = true → (∀ k, k ∈ ss ↔ k ∈ l) → ss.length = l.length → H p = none → Q (.ref p) (upd H p (.lst (ss.map V.str)))
theorem cr_sortT2 (hc : X.calm = true) : CallR X (.builtin "sorted") (rSortT X.prog X.w) := fun pins s σ H vs us Q J r ⟨a, l, e1, h1, h64, k⟩ => by
  subst e1
  rw [Vals.ref1 r]
  have b : Bag X.prog X.w a l s.heap := (J.hok a _ h1).1
  refine sorted_bag b (J.ok.hd hc) h64 fun s' p out n ss k1 g1 o1 z1 hp hS hs hm hl => ?_
  have hn : H p = none := J.hok.fresh z1
  have hlen : (ss.map V.str).length ≤ sizeLine := by rw [List.length_map, hl, sizeLine_eq]; omega
  refine ⟨.ref p, _, J.call' (ch := []) o1 (Un.laid k1 z1 hn) (J.hok.laid k1 z1 (show ObjOk X.prog X.w (upd H p (.lst (ss.map V.str))) s'.heap p (.lst (ss.map V.str)) from ⟨hlen, out.toList, n, vals_of_strs hS, hp⟩)) (by rw [g1]; exact J.bare) (fun _ z => nomatch z), rfl, k ss p hs hm hl hn⟩
end
end W9
namespace W9
open PySem PySem.Spec PyProof.Rows L2
section
variable {P : Program} {w : World} {A : Around} {E : Value → Shared → Prop} {s : Shared}
theorem zl_loop {R : Result → Shared → Prop} {z TI TO i1 i2 l1 l2 S : Addr} {xs ys : Array Value} {res : Value} {h0 : Heap} (hh : A.in1.handled = none) (D : ZipApart z TI TO i1 i2 l1 l2) (hS : S ∉ [z, TI, TO, i1, i2, l1, l2])
    (b1 : h0.objs.size ≤ z) (b2 : h0.objs.size ≤ TO) (b3 : h0.objs.size ≤ i1) (b4 : h0.objs.size ≤ i2) (b5 : h0.objs.size ≤ S) {n : Nat} (hn : n = min xs.size ys.size) (hz : n ≤ 1000000) :
    ∀ (m i : Nat) (s : Shared) (acc : Array Value) (c : Nat) (Ts : List Addr), i + m = n → ZS h0 s.heap z TI TO i1 i2 l1 l2 S xs ys i Ts → (∃ o, s.heap.get? TO = some o) → acc.toList = Ts.map Value.ref →
      s.heap.get? S = some { cls := .type "list", dict := none, data := .seq acc c, slots := #[] } →
      (∀ h' acc' c' Ts', (∃ bad, Prs h' bad Ts' (xs.toList.take n) (ys.toList.take n)) → (∀ T ∈ Ts', h0.objs.size ≤ T) → (∀ b o, h0.get? b = some o → h'.get? b = some o) → acc'.toList = Ts'.map Value.ref → S ∉ Ts' →
        h'.get? S = some { cls := .type "list", dict := none, data := .seq acc' c', slots := #[] } → R (.ok (.ret res)) { s with heap := h' }) →
      codeAny (model P w) A (.builtin "list.extend.loop" ⟨[.ref S, .ref z, res], []⟩) R s
  | 0, i, s, acc, c, Ts, him, Z, hO, ha, hs, hR => by
    have e : i = n := him
    subst e
    have en : xs[i]? = none ∨ ys[i]? = none := by
      rcases Nat.le_total xs.size ys.size with q | q
      · exact .inl (Array.getElem?_eq_none (by omega))
      · exact .inr (Array.getElem?_eq_none (by omega))
    have hs2 := hS
    simp only [List.mem_cons, List.not_mem_nil, or_false, not_or] at hs2
    obtain ⟨s1, s2, s3, s4, s5, s6, s7⟩ := hs2
    have fin : ∀ h', (∀ c o, c ≠ z → c ≠ TO → c ≠ i1 → c ≠ i2 → s.heap.get? c = some o → h'.get? c = some o) → R (.ok (.ret res)) { s with heap := h' } := fun h' k => by
      refine hR h' acc c Ts ⟨_, Z.pr.keep fun b o hb e => ?_⟩ Z.le (fun b o e => ?_) ha (fun q => ?_) (k _ _ s1 s3 s4 s5 hs)
      · simp only [List.mem_cons, List.not_mem_nil, or_false, not_or] at hb
        exact k b o hb.1 hb.2.1 hb.2.2.1 hb.2.2.2.1 e
      · have lb := Heap.lt_size e
        exact k b o (Nat.ne_of_lt (Nat.lt_of_lt_of_le lb b1)) (Nat.ne_of_lt (Nat.lt_of_lt_of_le lb b2)) (Nat.ne_of_lt (Nat.lt_of_lt_of_le lb b3)) (Nat.ne_of_lt (Nat.lt_of_lt_of_le lb b4)) (Z.old b o e)
      · exact prs_bad Z.pr S q (by simp)
    refine codeAny_builtin F.entry_extend_loop ?_
    rw [Around.under_plainId F.plain_extend_loop _]
    refine wpAny_bind (m := pyNext (.ref z)) ?_
    rcases Z.at_ with ⟨q1, a, b, q2⟩ | ⟨T, f, o, q1, q2⟩
    · exact wpAny_pyNext_zip_end hh D q1 Z.ti q2 Z.j1 Z.j2 Z.k1 Z.k2 en fun h' k => wpAny_pure (fin h' k)
    · exact wpAny_pyNext_zip_end_held hh D q1 q2 Z.ti Z.j1 Z.j2 Z.k1 Z.k2 en fun h' k => wpAny_pure (fin h' fun c o c1 _ c3 c4 => k c o c1 c3 c4)
  | m + 1, i, s, acc, c, Ts, him, Z, hO, ha, hs, hR => by
    have lx : i < xs.size := by omega
    have ly : i < ys.size := by omega
    have ex : xs[i]? = some xs[i] := Array.getElem?_eq_getElem lx
    have ey : ys[i]? = some ys[i] := Array.getElem?_eq_getElem ly
    have hs2 := hS
    simp only [List.mem_cons, List.not_mem_nil, or_false, not_or] at hs2
    obtain ⟨s1, s2, s3, s4, s5, s6, s7⟩ := hs2
    have lT : Ts.length = i := by
      have q := prs_len Z.pr
      rw [List.length_take, Array.length_toList] at q
      omega
    have lacc : acc.size = i := by rw [← Array.length_toList, ha, List.length_map, lT]
    have nxt : ∀ h', ZAt h' z TI TO → (∃ o, h'.get? TO = some o) → h'.IsListIter i1 l1 (i + 1) → h'.IsListIter i2 l2 (i + 1) → IsPair h' s.heap.objs.size xs[i] ys[i] → (∀ c o, c ≠ z → c ≠ TO → c ≠ i1 → c ≠ i2 → s.heap.get? c = some o → h'.get? c = some o) → (∃ o, s.heap.get? z = some o) →
        wpAny (model P w) A.in1 (do updateSeq S (·.push (.ref s.heap.objs.size)); again (.builtin "list.extend.loop" ⟨[.ref S, .ref z, res], []⟩)) (fun fin s' => match fin with | .done f => R (.ok f) s' | .again c' => c'.quiet = true ∧ codeAny (model P w) A c' R s') (fun e s' => R (.error e) s') { s with heap := h' } := fun h' at_ hO' a3 a4 a5 k hz' => by
      have Z2 := zl_step D hS b1 b2 b3 b4 Z ex ey rfl at_ a3 a4 a5 ⟨_, hs⟩ hO hz' k
      have hs' := k _ _ s1 s3 s4 s5 hs
      refine wpAny_bind (wpAny_updateSeq hs' rfl (wpAny_pure ⟨plainId_quiet F.plain_extend_loop _, zl_loop (h0 := h0) hh D hS b1 b2 b3 b4 b5 hn hz m (i + 1) _ (acc.push (.ref s.heap.objs.size)) _ (Ts ++ [s.heap.objs.size]) (by omega) (Z2.push hS b5 (fun b o hb e => (Heap.get?_update_other _ _ (Ne.symm hb)).trans e) ⟨_, Heap.get?_update_self _ hs' rfl⟩) ?_ ?_ (Heap.get?_update_self _ hs' rfl) fun h2 acc2 c2 Ts2 p1 p2 p3 p4 p5 p6 => hR h2 acc2 c2 Ts2 p1 p2 p3 p4 p5 p6⟩) (by rw [lacc, sizeLine_eq]; omega) (by show (acc.push _).size ≤ sizeLine + 1; rw [Array.size_push, lacc, sizeLine_eq]; omega))
      · obtain ⟨o, e⟩ := hO'
        exact ⟨o, (Heap.get?_update_other _ _ s3).trans e⟩
      · rw [Array.toList_push, ha, List.map_append]
        rfl
    refine codeAny_builtin F.entry_extend_loop ?_
    rw [Around.under_plainId F.plain_extend_loop _]
    refine wpAny_bind (m := pyNext (.ref z)) ?_
    rcases Z.at_ with ⟨q1, a, b, q2⟩ | ⟨T, f, o, q1, q2⟩
    · exact wpAny_pyNext_zip_item D q1 Z.ti q2 Z.j1 Z.j2 Z.k1 Z.k2 ex ey fun h' a1 a2 a3 a4 a5 a6 k => nxt h' (.inr ⟨_, false, _, a1, a5⟩) ⟨_, a2⟩ a3 a4 a5 k ⟨_, q1⟩
    · exact wpAny_pyNext_zip_item_held D q1 q2 Z.ti Z.j1 Z.j2 Z.k1 Z.k2 ex ey fun h' a1 a3 a4 a5 a6 k => by
        obtain ⟨o', hO⟩ := hO
        have al : ∃ u, h'.get? T = some u := by
          by_cases t1 : T = z
          · exact ⟨_, by rw [t1]; exact a1⟩
          · by_cases t2 : T = i1
            · obtain ⟨u, e, _⟩ := a3
              exact ⟨u, t2 ▸ e⟩
            · by_cases t3 : T = i2
              · obtain ⟨u, e, _⟩ := a4
                exact ⟨u, t3 ▸ e⟩
              · exact ⟨o, k T o t1 t2 t3 q2⟩
        obtain ⟨u, al⟩ := al
        exact nxt h' (.inr ⟨T, true, u, a1, al⟩) ⟨_, k _ _ D.TOz D.TOi1 D.TOi2 hO⟩ a3 a4 a5 (fun c o c1 _ c3 c4 => k c o c1 c3 c4) ⟨_, q1⟩
theorem zip_no_len : typeLookup (.type "zip") "__len__" = pure none := am_miss_of_fast (by decide +kernel)
theorem zip_no_hint : typeLookup (.type "zip") "__length_hint__" = pure none := am_miss_of_fast (by decide +kernel)
theorem nat_apart (n l1 l2 : Nat) (h1 : l1 < n) (h2 : l2 < n) : n + 5 ∉ [n + 4, n + 2, n + 3, n, n + 1, l1, l2] := by
  simp only [List.mem_cons, List.not_mem_nil, or_false, not_or]
  omega
/-- list of a zip of two lists that stands at its start -/
theorem list_zip {z TI TO i1 i2 l1 l2 : Addr} {xs ys : Array Value} {h0 : Heap} {Q : Value → Shared → Prop} (hh : A.handled = none) (D : ZipApart z TI TO i1 i2 l1 l2) (hS : s.heap.objs.size ∉ [z, TI, TO, i1, i2, l1, l2])
    (b1 : h0.objs.size ≤ z) (b2 : h0.objs.size ≤ TO) (b3 : h0.objs.size ≤ i1) (b4 : h0.objs.size ≤ i2) (b5 : h0.objs.size ≤ s.heap.objs.size) (hz : min xs.size ys.size ≤ 1000000)
    (q1 : IsZip s.heap z TI TO .none) (q2 : IsPair s.heap TI (.ref i1) (.ref i2)) (q3 : IsPair s.heap TO .none .none) (q4 : s.heap.IsListIter i1 l1 0) (q5 : s.heap.IsListIter i2 l2 0) (q6 : s.heap.IsList l1 xs) (q7 : s.heap.IsList l2 ys)
    (q8 : ∀ b o, h0.get? b = some o → s.heap.get? b = some o)
    (hQ : ∀ h' acc' c' Ts' bad, Prs h' bad Ts' (xs.toList.take (min xs.size ys.size)) (ys.toList.take (min xs.size ys.size)) → (∀ T ∈ Ts', h0.objs.size ≤ T) → (∀ b o, h0.get? b = some o → h'.get? b = some o) → acc'.toList = Ts'.map Value.ref → s.heap.objs.size ∉ Ts' →
      h'.get? s.heap.objs.size = some { cls := .type "list", dict := none, data := .seq acc' c', slots := #[] } → Q (.ref s.heap.objs.size) { s with heap := h' }) :
    wpAny (model P w) A (call (.type "list") [.ref z]) Q E s := by
  have lt : ∀ {c o}, s.heap.get? c = some o → s.heap.objs.size ≠ c := fun e => Nat.ne_of_gt (Heap.lt_size e)
  have up : ∀ {b o}, s.heap.get? b = some o → (s.heap.push { cls := .type "list", data := .seq #[] }).get? b = some o := fun e => Heap.get?_push_of_some _ e
  have Z : ZS h0 (s.heap.push { cls := .type "list", data := .seq #[] }) z TI TO i1 i2 l1 l2 s.heap.objs.size xs ys 0 [] :=
    ⟨.inl ⟨up q1, _, _, up q3⟩, up q2, q4.at fun o e => up e, q5.at fun o e => up e, q6.at fun o e => up e, q7.at fun o e => up e, by rw [List.take_zero, List.take_zero]; exact .nil, fun T hT => (nomatch hT), fun b o e => up (q8 b o e)⟩
  have hL : (s.heap.push { cls := .type "list", data := .seq #[] }).get? s.heap.objs.size = some { cls := .type "list", data := .seq #[] } := Heap.get?_push_size _ rfl
  refine callType_codes (Q₁ := fun v s1 => v = .ref s.heap.objs.size ∧ s1 = { s with heap := s.heap.push { cls := .type "list", data := .seq #[] } }) F.called_list (F.typeCall_list_1 _) F.entry_list_init (code_list_new _ ⟨rfl, rfl⟩) fun v s1 e1 => ?_
  obtain ⟨e1, e2⟩ := e1
  subst e1 e2
  refine ⟨⟨_, hL, rfl⟩, F.args_list_init_2 _ _, ?_⟩
  show wpAny _ _ (Builtin.List.listItems (.ref s.heap.objs.size) >>= _) _ _ _
  unfold Builtin.List.listItems
  refine wpAny_bind (wpAny_bind (wpAny_seqItems hL rfl (wpAny_pure ?_)))
  show wpAny _ _ (updateSeq s.heap.objs.size _ >>= _) _ _ _
  refine wpAny_bind (wpAny_updateSeq hL rfl ?_)
  have hL2 := Heap.get?_update_self (Obj.mapSeq (fun _ => (#[] : Array Value))) hL rfl
  refine wpAny_bind (wpAny_letGo ?_)
  have Z2 := Z.push hS b5 (fun b o hb e => (Heap.get?_update_other _ _ (Ne.symm hb)).trans e) ⟨_, hL2⟩
  have hz2 : IsZip ((s.heap.push { cls := .type "list", data := .seq #[] }).update s.heap.objs.size (Obj.mapSeq fun _ => #[])) z TI TO .none := (Heap.get?_update_other _ _ (lt q1)).trans (up q1)
  unfold Builtin.List.listExtendWith
  refine wpAny_bind (wpAny_typeOf (T := "zip") ⟨_, hz2, rfl⟩ ?_)
  have n1 : Builtin.List.listSameRef (.ref s.heap.objs.size) (.ref z) = false := by simp [Builtin.List.listSameRef, lt q1]
  have n2 : (Value.type "zip" == Value.type "list") = false := by decide
  have n3 : (Value.type "zip" == Value.type "tuple") = false := by decide
  simp only [n1, n2, n3, Bool.or_false, Bool.false_eq_true, if_false]
  refine wpAny_bind (wpAny_pyIter_zip hz2 (wpAny_bind (wpAny_holding ?_)))
  unfold Builtin.List.listLengthHint
  refine wpAny_bind (wpAny_specialOf ⟨_, hz2, rfl⟩ zip_no_len ?_)
  show wpAny _ _ (specialOf (Value.ref z) (Str.ofString "__length_hint__") >>= _) _ _ _
  refine wpAny_bind (wpAny_specialOf ⟨_, hz2, rfl⟩ zip_no_hint (wpAny_pure ?_))
  show wpAny _ _ (rule "list.extend.makes-room" >>= _) _ _ _
  refine wpAny_bind (wpAny_rule (wpAny_bind ?_))
  show wpAny _ _ (updateSeq s.heap.objs.size (·.push .none) >>= fun _ => updateSeq s.heap.objs.size (·.pop)) _ _ _
  refine wpAny_bind (wpAny_updateSeq hL2 rfl ?_)
  have hL3 := Heap.get?_update_self (Obj.mapSeq (·.push Value.none)) hL2 rfl
  refine wpAny_updateSeq (hz := by seq_fits) hL3 rfl ?_
  have hL4 := Heap.get?_update_self (Obj.mapSeq (·.pop)) hL3 rfl
  have Z3 := Z2.push hS b5 (fun b o hb e => (Heap.get?_update_other _ _ (Ne.symm hb)).trans e) ⟨_, hL3⟩
  have Z4 := Z3.push hS b5 (fun b o hb e => (Heap.get?_update_other _ _ (Ne.symm hb)).trans e) ⟨_, hL4⟩
  have hO : ∃ o, (((((s.heap.push { cls := .type "list", data := .seq #[] }).update s.heap.objs.size (Obj.mapSeq fun _ => #[])).update s.heap.objs.size (Obj.mapSeq (·.push Value.none))).update s.heap.objs.size (Obj.mapSeq (·.pop))).get? TO = some o) := ⟨_, (Heap.get?_update_other _ _ (lt q3)).trans ((Heap.get?_update_other _ _ (lt q3)).trans ((Heap.get?_update_other _ _ (lt q3)).trans (up q3)))⟩
  exact wpAny_pure ⟨plainId_quiet F.plain_extend_loop _, zl_loop (h0 := h0) (by simp [hh]) D hS b1 b2 b3 b4 b5 rfl hz _ 0 _ #[] _ [] (Nat.zero_add _) Z4 hO rfl hL4 fun h' acc' c' Ts' ⟨bad, p1⟩ p2 p3 p4 p5 p6 => ⟨rfl, hQ h' acc' c' Ts' bad p1 p2 p3 p4 p5 p6⟩⟩
end
end W9
namespace W9
open PySem PySem.Spec PyProof.Rows L2
/-- the pairs, from the front -/
inductive Al (h : Heap) : List Addr → List Value → List Value → Prop
  | nil : Al h [] [] []
  | cons {T x y Ts xs ys} : IsPair h T x y → Al h Ts xs ys → Al h (T :: Ts) (x :: xs) (y :: ys)
theorem Al.snoc {h : Heap} {T : Addr} {x y : Value} (p : IsPair h T x y) : ∀ {Ts xs ys}, Al h Ts xs ys → Al h (Ts ++ [T]) (xs ++ [x]) (ys ++ [y])
  | _, _, _, .nil => .cons p .nil
  | _, _, _, .cons q r => .cons q (r.snoc p)
theorem Prs.al {h : Heap} {bad : List Addr} : ∀ {Ts xs ys}, Prs h bad Ts xs ys → Al h Ts xs ys
  | _, _, _, .nil => .nil
  | _, _, _, .snoc p q _ _ => p.al.snoc q
def zH : List Addr → List V → List V → List (Addr × HO)
  | T :: Ts, x :: xs, y :: ys => (T, .tup [x, y]) :: zH Ts xs ys
  | _, _, _ => []
theorem zH_fst : ∀ {Ts : List Addr} {xs ys : List V}, Ts.length ≤ xs.length → Ts.length ≤ ys.length → (zH Ts xs ys).map (·.1) = Ts
  | [], _, _, _, _ => by unfold zH; rfl
  | _ :: _, [], _, h, _ => by simp at h
  | _ :: _, _ :: _, [], _, h => by simp at h
  | T :: Ts, x :: xs, y :: ys, h, k => by
    simp only [zH, List.map_cons]
    rw [zH_fst (by simpa using h) (by simpa using k)]
theorem al_ok {P : Program} {w : World} {h : Heap} : ∀ {Ts : List Addr} {us vs : List Value} {xs ys : List V}, Al h Ts us vs → Vals xs us → Vals ys vs → ∀ q ∈ zH Ts xs ys, ∀ Hx, ObjOk P w Hx h q.1 q.2
  | _, _, _, _, _, .nil, .nil, .nil, q, hq => by simp [zH] at hq
  | _, _, _, _, _, .cons p r, .cons a b, .cons c d, q, hq => by
    simp only [zH, List.mem_cons] at hq
    rcases hq with rfl | hq
    · exact fun Hx => ⟨by show 2 ≤ sizeLine; decide, [_, _], .cons a (.cons c .nil), ⟨_, p, rfl, _, rfl⟩⟩
    · exact al_ok r b d q hq
theorem vals_take : ∀ {xs : List V} {us : List Value} (n : Nat), Vals xs us → Vals (xs.take n) (us.take n)
  | _, _, 0, _ => .nil
  | _, _, _ + 1, .nil => .nil
  | _, _, n + 1, .cons a b => .cons a (vals_take n b)
theorem vals_refs : ∀ Ts : List Addr, Vals (Ts.map V.ref) (Ts.map Value.ref)
  | [] => .nil
  | _ :: r => .cons rfl (vals_refs r)
theorem zH_take : ∀ (Ts : List Addr) (xs ys : List V) (n : Nat), Ts.length ≤ n → zH Ts (xs.take n) (ys.take n) = zH Ts xs ys
  | [], _, _, _, _ => by unfold zH; rfl
  | T :: Ts, xs, ys, 0, h => by simp at h
  | T :: Ts, [], ys, n + 1, h => by simp [zH]
  | T :: Ts, x :: xs, [], n + 1, h => by simp [zH]
  | T :: Ts, x :: xs, y :: ys, n + 1, h => by
    simp only [List.take_succ_cons, zH]
    rw [zH_take Ts xs ys n (by simpa using h)]
section
variable {X : Cx} {ds : DE} {m : MS} {e a b : Expr} {pos p p2 q : Pos}
def tListZip (K : PySem.W.Frag) (ta : TA) : TE := fun σ H Q => ta σ H fun vs H1 => ∃ (a b : Addr) (xs ys : List V), vs = [.ref a, .ref b] ∧ SqL K H1 a xs ∧ SqL K H1 b ys ∧ min xs.length ys.length ≤ 1000000 ∧
  ∀ Ts p, Ts.length = min xs.length ys.length → (p :: Ts).Nodup → (∀ T ∈ p :: Ts, H1 T = none) → Q (.ref p) (upd (addAll H1 (zH Ts xs ys)) p (.lst (Ts.map V.ref)))
theorem fresh_un {fs : List Addr} {H : Hp} {h h' : Heap} (k : ∀ b o, h.get? b = some o → h'.get? b = some o) : Un fs [] H H h h' :=
  ⟨fun b o e _ _ _ => k b o e, fun b o e _ _ _ => ⟨_, k b o e⟩, fun _ _ _ n _ => n, fun b o e _ => ⟨o, k b o e⟩, fun _ _ e => e, fun _ _ _ e => e, fun _ ps e => ⟨#[], by rw [e]; simp⟩⟩
theorem nat_ge1 (n k : Nat) : n ≤ n + k := Nat.le_add_right _ _
theorem pe_listZip {ta : TA} (hc : X.calm = true) (hg : Gl X "list") (hm : X.mg "list" = none) (hg2 : Gl X "zip") (hm2 : X.mg "zip" = none) (ha : PA X [a, b] ta)
    (hs : starEach [a, b] X.env = (false, eval a X.env) :: starEach [b] X.env := by rfl) (hpl : (backTo q (starEach [b] X.env)).any (·.1) = false := by rfl)
    (hs2 : starEach [.Call (.Name "zip" p2) [a, b] [] q] X.env = (false, eval (.Call (.Name "zip" p2) [a, b] [] q) X.env) :: starEach [] X.env := by rfl) (hpl2 : (backTo pos (starEach [] X.env)).any (·.1) = false := by rfl) :
    PE X (.Call (.Name "list" p) [.Call (.Name "zip" p2) [a, b] [] q] [] pos) (tListZip X.K ta) := ⟨fun pins s σ H Q J h => by
  refine Call_ (ld_blt J hg hm boot_list (PyProof.Rows.callWith_type1 (PyProof.Rows.args_cons ?_ hs2) hs2 hpl2))
  refine Call_ (ld_blt J hg2 hm2 PyProof.Rows.boot_zip (PyProof.Rows.callWith_type1 (thn (ha.run q pins s σ H _ J h) fun us s1 ⟨vs, H1, J1, r1, l1, l2, xs, ys, ex, h1, h2, hz, k⟩ => ?_) hs hpl))
  subst ex
  cases r1 with
  | cons r rr =>
    cases rr with
    | cons r' rr =>
      cases rr
      cases r
      cases r'
      obtain ⟨i1, v1, p1, _⟩ := J1.list h1
      obtain ⟨i2, v2, p3, _⟩ := J1.list h2
      have e1 : i1.length = xs.length := v1.length.symm
      have e2 : i2.length = ys.length := v2.length.symm
      refine call_zip_2 p1.isList p3.isList fun h' z1 z2 z3 z4 z5 z6 z7 => PyProof.Rows.args_nil ?_
      have lt1 : l1 < s1.heap.objs.size := let ⟨_, q, _⟩ := p1.isList; Heap.lt_size q
      have lt2 : l2 < s1.heap.objs.size := let ⟨_, q, _⟩ := p3.isList; Heap.lt_size q
      have eS : (Shared.heap { s1 with heap := h' }).objs.size = s1.heap.objs.size + 5 := z6
      refine list_zip (s := { s1 with heap := h' }) (h0 := s1.heap) (J1.ok.hd hc) (PyProof.Rows.zipApart_new lt1 lt2) (by rw [eS]; exact nat_apart _ _ _ lt1 lt2) (nat_ge1 _ _) (nat_ge1 _ _) (nat_ge1 _ 0) (nat_ge1 _ _) (by rw [eS]; exact nat_ge1 _ _) (by rw [List.size_toArray, List.size_toArray, e1, e2]; exact hz)
        z1 z2 z3 z4 z5 (p1.isList.at fun o e => z7 _ o e) (p3.isList.at fun o e => z7 _ o e) z7 fun h'' acc c Ts bad pr le old ha2 hn hp => ?_
      rw [eS] at hp hn ⊢
      rw [List.size_toArray, List.size_toArray, e1, e2] at pr
      have nd : ((s1.heap.objs.size + 5) :: Ts).Nodup := List.nodup_cons.mpr ⟨hn, prs_nodup pr⟩
      have lTs : Ts.length = min xs.length ys.length := by
        have := prs_len pr
        rw [List.length_take, List.toList_toArray] at this
        omega
      have fr : ∀ T ∈ (s1.heap.objs.size + 5) :: Ts, s1.heap.get? T = none ∧ H1 T = none := fun T hT => by
        have g : s1.heap.objs.size ≤ T := by
          rcases List.mem_cons.mp hT with e | e
          · rw [e]; exact nat_ge1 _ _
          · exact le T e
        refine ⟨?_, J1.hok.fresh g⟩
        cases w : s1.heap.get? T with
        | none => rfl
        | some o => exact absurd (Heap.lt_size w) (Nat.not_lt_of_le g)
      have fs1 := zH_fst (Ts := Ts) (xs := xs) (ys := ys) (by omega) (by omega)
      have ok1 : ∀ q ∈ zH Ts xs ys, ∀ Hx, ObjOk X.prog X.w Hx h'' q.1 q.2 := by
        have := al_ok (P := X.prog) (w := X.w) pr.al (vals_take (min xs.length ys.length) (us := i1.toArray.toList) v1) (vals_take (min xs.length ys.length) (us := i2.toArray.toList) v2)
        rw [zH_take _ _ _ _ (by omega)] at this
        exact this
      have eL : upd (addAll H1 (zH Ts xs ys)) (s1.heap.objs.size + 5) (.lst (Ts.map V.ref)) = addAll (addAll H1 (zH Ts xs ys)) [(s1.heap.objs.size + 5, .lst (Ts.map V.ref))] := rfl
      have n5 : addAll H1 (zH Ts xs ys) (s1.heap.objs.size + 5) = none := by
        rw [addAll_ne (by rw [fs1]; exact hn)]
        exact (fr _ List.mem_cons_self).2
      have nd1 : ((zH Ts xs ys).map (·.1)).Nodup := by rw [fs1]; exact (List.nodup_cons.mp nd).2
      have fr1 : ∀ q ∈ zH Ts xs ys, s1.heap.get? q.1 = none ∧ H1 q.1 = none := fun q hq => fr _ (List.mem_cons_of_mem _ (by rw [← fs1]; exact List.mem_map_of_mem hq))
      refine ⟨.ref _, _, J1.un (t' := s1.toks) (un_all [(s1.heap.objs.size + 5, .lst (Ts.map V.ref))] _ (un_all _ _ (fresh_un old) fr1 nd1) (fun q hq => ?_) (by simp)) (hok_all [(s1.heap.objs.size + 5, .lst (Ts.map V.ref))] _ (hok_all _ _ (J1.hok.kept old) (fun q hq => ⟨(fr1 q hq).2, ok1 q hq⟩) nd1) (fun q hq => ?_) (by simp)), rfl, k Ts _ lTs nd fun T hT => (fr T hT).2⟩
      · rw [List.mem_singleton.mp hq]
        exact ⟨(fr _ List.mem_cons_self).1, n5⟩
      · rw [List.mem_singleton.mp hq]
        exact ⟨n5, fun Hx => ⟨by rw [List.length_map, lTs, sizeLine_eq]; omega, acc.toList, c, by rw [ha2]; exact vals_refs Ts, hp⟩⟩⟩
end
end W9
namespace W9
open PySem PySem.Spec PyProof.Rows L2
/-! ### the rows of a text -/
def lnsA : List Nat → List Nat → List (List Nat)
  | acc, [] => [acc]
  | acc, c :: r => if c = 10 then acc :: lnsA [] r else lnsA (acc ++ [c]) r
def lns (t : List Nat) : List (List Nat) := lnsA [] t
theorem spl_lns : ∀ (t acc : List Nat), TL.spl [10] 0 acc t = lnsA acc t
  | [], acc => TL.spl_nil _ _ _
  | c :: r, acc => by
    have e : TL.pre [10] (c :: r) = decide (c = 10) := by
      by_cases h : c = 10
      · subst h; rfl
      · simp [TL.pre, h]
    unfold lnsA
    show (if TL.pre [10] (c :: r) = true then acc :: TL.spl [10] 0 [] r else TL.spl [10] 0 (acc ++ [c]) r) = _
    rw [e, spl_lns r [], spl_lns r (acc ++ [c])]
    by_cases h : c = 10
    · rw [if_pos h, if_pos (decide_eq_true h)]
    · rw [if_neg h, if_neg (by simpa using h)]
theorem split_lns (t : List Nat) : Txt.split ⟨t.toArray⟩ ⟨([10] : List Nat).toArray⟩ = (lns t).map fun l => ⟨l.toArray⟩ := by
  have e := SX.split_S (a := t) (b := [10]) (by simp) (by decide)
  rw [spl_lns] at e
  exact e
theorem lnsA_ne : ∀ (t acc : List Nat), lnsA acc t ≠ []
  | [], acc, h => by simp [lnsA] at h
  | c :: r, acc, h => by
    unfold lnsA at h
    by_cases q : c = 10
    · rw [if_pos q] at h; cases h
    · rw [if_neg q] at h; exact lnsA_ne r _ h
theorem lnsA_mem {P : Nat → Prop} : ∀ (t acc : List Nat), (∀ c ∈ t, c ≠ 10 → P c) → (∀ c ∈ acc, P c) → ∀ w ∈ lnsA acc t, ∀ c ∈ w, P c
  | [], acc, _, h2, w, hw, c, hc => by
    rw [List.mem_singleton.mp hw] at hc
    exact h2 c hc
  | x :: r, acc, h, h2, w, hw, c, hc => by
    unfold lnsA at hw
    by_cases q : x = 10
    · rw [if_pos q] at hw
      rcases List.mem_cons.mp hw with e | e
      · rw [e] at hc; exact h2 c hc
      · exact lnsA_mem r [] (fun c hc => h c (List.mem_cons_of_mem _ hc)) (fun _ z => nomatch z) w e c hc
    · rw [if_neg q] at hw
      refine lnsA_mem r _ (fun c hc => h c (List.mem_cons_of_mem _ hc)) (fun c hc => ?_) w hw c hc
      rcases List.mem_append.mp hc with z | z
      · exact h2 c z
      · rw [List.mem_singleton.mp z]
        exact h x List.mem_cons_self q
theorem lnsA_len : ∀ (t acc : List Nat), (lnsA acc t).length ≤ t.length + 1 ∧ ∀ w ∈ lnsA acc t, w.length ≤ acc.length + t.length
  | [], acc => ⟨Nat.le_refl _, fun w hw => by rw [List.mem_singleton.mp hw]; exact Nat.le_refl _⟩
  | x :: r, acc => by
    unfold lnsA
    by_cases q : x = 10
    · rw [if_pos q]
      obtain ⟨h1, h2⟩ := lnsA_len r []
      refine ⟨by rw [List.length_cons, List.length_cons]; omega, fun w hw => ?_⟩
      rcases List.mem_cons.mp hw with e | e
      · rw [e, List.length_cons]; omega
      · have := h2 w e
        simp only [List.length_nil, List.length_cons] at *
        omega
    · rw [if_neg q]
      obtain ⟨h1, h2⟩ := lnsA_len r (acc ++ [x])
      refine ⟨by rw [List.length_cons]; omega, fun w hw => ?_⟩
      have := h2 w hw
      rw [List.length_append, List.length_singleton] at this
      rw [List.length_cons]
      omega
/-- the text of an int -/
def intS (i : Int) : List Nat := (Str.ofString (toString i)).cps.toList
theorem intS_str (i : Int) : Str.ofString (toString i) = ⟨(intS i).toArray⟩ := by
  unfold intS
  rw [Array.toArray_toList]
theorem intS_num (n : Nat) : intS (n : Int) = TL.numL n := TL.tl_num n
section
variable {X : Cx} {ds : DE} {m : MS} {e a b : Expr} {es : List Expr} {pos p p2 q : Pos}
theorem dpa_txts {K : PySem.W.Frag} {G : Hp} : ∀ {ls : List (List Nat)} {vs : List V}, DpAll K G vs (txts ls) → vs = ls.map fun l => V.str ⟨l.toArray⟩
  | [], _, .nil => rfl
  | l :: ls, _, .cons (.str _) r => congrArg (V.str ⟨l.toArray⟩ :: ·) (dpa_txts r)
theorem txts_dpa {K : PySem.W.Frag} {G : Hp} : ∀ (ls : List (List Nat)), DpAll K G (ls.map fun l => V.str ⟨l.toArray⟩) (txts ls)
  | [] => .nil
  | _ :: ls => .cons (.str _) (txts_dpa ls)
theorem md_split {t : List Nat} (hz : t.length ≤ 1000000) : MtD X "str" "str.split" m (S t) [S [10]] (Ls (txts (lns t))) := ⟨ty_str, _, mt_split, fun G H v vs w r rs Q q => by
  cases ds_str r
  cases rs with
  | cons r1 r2 =>
    cases ds_str r1
    cases r2
    refine ⟨⟨t.toArray⟩, ⟨([10] : List Nat).toArray⟩, rfl, rfl, rfl, by rw [str_len, sizeLine_eq]; omega, fun p hp => ?_⟩
    have g := Gr.new (o := .lst ((lns t).map fun l => V.str ⟨l.toArray⟩)) w hp
    have e : (Txt.split ⟨t.toArray⟩ ⟨([10] : List Nat).toArray⟩).map V.str = (lns t).map fun l => V.str ⟨l.toArray⟩ := by rw [split_lns, List.map_map]; rfl
    rw [e]
    exact q _ _ _ g (.py (.lst (SqL.of upd_same) (txts_dpa _)))⟩
theorem md_isdigit {t : List Nat} : MtD X "str" "str.isdigit" m (S t) [] (B (Txt.isdigit ⟨t.toArray⟩)) := ⟨ty_str, _, mt_isdigit, fun G H v vs w r rs Q q => by
  cases ds_str r
  cases rs
  exact ⟨_, rfl, rfl, trivial, q _ _ _ (.refl w) (.py (.bl _))⟩⟩
theorem ca_strI {i : Int} (h : i.natAbs < 2 ^ 60) : CaD X (.type "str") m [I i] (S (intS i)) := ca_one call_str_int fun G H v w r Q q => by
  cases ds_int r
  refine ⟨i, rfl, log_small h, ?_⟩
  rw [intS_str]
  exact q _ _ _ (.refl w) (.py (.str _))
theorem ca_intS {t : List Nat} {n : Int} (h : PySem.intText? ⟨t.toArray⟩ = some n) (hl : t.length ≤ 640) : CaD X (.type "int") m [S t] (I n) := ca_one call_int_str fun G H v w r Q q => by
  cases ds_str r
  exact ⟨_, n, rfl, h, by rw [str_len]; exact hl, q _ _ _ (.refl w) (.py (.int _))⟩
/-! ### isinstance -/
theorem tyx_tup {K : PySem.W.Frag} {H : Hp} {a : Addr} {xs : List V} (h : SqT K H a xs) : TyX K H (.ref a) (.type "tuple") := by
  rcases h with (h | ⟨o, h⟩) | ⟨o, its, n, h1, h2, _⟩
  · exact .base (.tup h)
  · exact .fTuple h
  · exact .kTuple h1 h2
theorem ca_isi {x : SD} {t u : String} {k : Bool} (ht : ∀ G H v, Wd X.K m G H → DS X.K G v x → TyX X.K H v (.type t)) (hk : PySem.W.kitOne X.K (.type t) (.type u) = some k) : CaD X (.builtin "isinstance") m [x, .raw (.ty u)] (B k) := ca_two call_isi fun G H v y w r r2 Q q => by
  cases ds_raw r2
  exact ⟨_, _, _, _, k, rfl, .ty u, ht G H v w r, hk, q _ _ _ (.refl w) (.py (.bl _))⟩
theorem tyx_int {i : Int} : ∀ G H v, Wd X.K m G H → DS X.K G v (I i) → TyX X.K H v (.type "int") := fun G H v w r => by cases ds_int r; exact .base (.int i)
theorem tyx_str {x : Str} : ∀ G H v, Wd X.K m G H → DS X.K G v (.py (.str x)) → TyX X.K H v (.type "str") := fun G H v w r => by cases ds_str r; exact .base (.str x)
theorem tyx_tp {l : List PyData} : ∀ G H v, Wd X.K m G H → DS X.K G v (Tp l) → TyX X.K H v (.type "tuple") := fun G H v w r => by
  obtain ⟨a, xs, rfl, h1, _⟩ := ds_tup r
  exact tyx_tup (ex_t w.w h1)
theorem kit_same {K : PySem.W.Frag} {t : String} : PySem.W.kitOne K (.type t) (.type t) = some true := if_pos (beq_self_eq_true _)
theorem ca_isiII {i : Int} : CaD X (.builtin "isinstance") m [I i, .raw (.ty "int")] (B true) := ca_isi tyx_int kit_same
theorem ca_isiIB {i : Int} : CaD X (.builtin "isinstance") m [I i, .raw (.ty "bool")] (B false) := ca_isi tyx_int (kit_ty (by decide +kernel))
theorem ca_isiIT {i : Int} : CaD X (.builtin "isinstance") m [I i, .raw (.ty "tuple")] (B false) := ca_isi tyx_int (kit_ty (by decide +kernel))
theorem ca_isiST {x : Str} : CaD X (.builtin "isinstance") m [.py (.str x), .raw (.ty "tuple")] (B false) := ca_isi tyx_str (kit_ty (by decide +kernel))
theorem ca_isiTT {l : List PyData} : CaD X (.builtin "isinstance") m [Tp l, .raw (.ty "tuple")] (B true) := ca_isi tyx_tp kit_same
/-! ### == and in of data -/
theorem str_beq {a b : List Nat} : ((⟨a.toArray⟩ : Str) == ⟨b.toArray⟩) = decide (a = b) := by
  by_cases h : a = b
  · subst h; simp
  · rw [decide_eq_false h]
    exact beq_eq_false_iff_ne.mpr fun e => h (str_inj.mp e)
theorem eqvAll_txts : ∀ (a b : List (List Nat)), PyData.eqvAll (txts a) (txts b) = decide (a = b)
  | [], [] => rfl
  | [], _ :: _ => rfl
  | _ :: _, [] => rfl
  | x :: a, y :: b => by
    have ih := eqvAll_txts a b
    have e1 : PyData.eqv (.str ⟨x.toArray⟩) (.str ⟨y.toArray⟩) = decide (x = y) := by simp only [PyData.eqv]; exact str_beq
    show PyData.eqvAll (PyData.str ⟨x.toArray⟩ :: txts a) (PyData.str ⟨y.toArray⟩ :: txts b) = _
    simp only [PyData.eqvAll, e1, ih, List.cons.injEq]
    by_cases h1 : x = y <;> by_cases h2 : a = b <;> simp [h1, h2]
def Plain (ws : List (List Nat)) : Prop := ∀ w ∈ ws, ∀ c ∈ w, c < 1114112
theorem lay_str {w : List Nat} (h : ∀ c ∈ w, c < 1114112) : PyData.canLay0 (.str ⟨w.toArray⟩) = true := by
  simp only [PyData.canLay0, PyData.strOk]
  simpa using h
theorem lay_txts : ∀ {ws : List (List Nat)}, Plain ws → PyData.canLayAll0 (txts ws) = true
  | [], _ => rfl
  | w :: ws, h => by
    show PyData.canLayAll0 (PyData.str ⟨w.toArray⟩ :: txts ws) = true
    simp only [PyData.canLayAll0]
    rw [lay_str (h w List.mem_cons_self), lay_txts fun v hv => h v (List.mem_cons_of_mem _ hv)]
    rfl
theorem dep_txts : ∀ (ws : List (List Nat)), PyData.depthAll (txts ws) = 0
  | [] => rfl
  | w :: ws => by
    show max (PyData.depth (.str ⟨w.toArray⟩)) (PyData.depthAll (txts ws)) = 0
    rw [dep_txts ws]
    rfl
theorem sh_str {w : List Nat} (h : ∀ c ∈ w, c < 1114112) : SeqAt.shaped (.str ⟨w.toArray⟩) = true := by
  unfold SeqAt.shaped
  rw [lay_str h]
  rfl
theorem sh_lst {ws : List (List Nat)} (h : Plain ws) : SeqAt.shaped (.list (txts ws)) = true := by
  unfold SeqAt.shaped
  simp only [PyData.canLay0, PyData.depth, lay_txts h, dep_txts]
  decide
theorem sh_tp {ws : List (List Nat)} (h : Plain ws) : SeqAt.shaped (.tuple (txts ws)) = true := by
  unfold SeqAt.shaped
  simp only [PyData.canLay0, PyData.depth, lay_txts h, dep_txts]
  decide
theorem cd_neL (hr : Rm 0 X.A) {a b : List (List Nat)} (ha : Plain a) (hb : Plain b) : CmpD X .NotEq (Ls (txts a)) (Ls (txts b)) (!decide (a = b)) := ⟨_, op_neD (by have := hr.r.un; omega), fun m G H v u w r1 r2 Q q => by
  cases r1 with
  | py r1 =>
    cases r2 with
    | py r2 =>
      refine ⟨_, _, dp_mono w.w r1, dp_mono w.w r2, sh_lst ha, sh_lst hb, ?_⟩
      simp only [PyData.eqv, eqvAll_txts]
      exact q _ _ _ (.refl w) (.py (.bl _))⟩
theorem any_txts {w : List Nat} : ∀ (ws : List (List Nat)), ((txts ws).any fun z => PyData.eqv z (.str ⟨w.toArray⟩)) = decide (w ∈ ws)
  | [] => by simp
  | x :: ws => by
    have e1 : PyData.eqv (.str ⟨x.toArray⟩) (.str ⟨w.toArray⟩) = decide (x = w) := by simp only [PyData.eqv]; exact str_beq
    show (PyData.eqv (.str ⟨x.toArray⟩) (.str ⟨w.toArray⟩) || ((txts ws).any fun z => PyData.eqv z (.str ⟨w.toArray⟩))) = _
    rw [e1, any_txts ws]
    by_cases h1 : x = w
    · simp [h1]
    · simp [h1, Ne.symm h1]
theorem cd_inTs (hr : Rm 0 X.A) {w : List Nat} {ws : List (List Nat)} (hw : ∀ c ∈ w, c < 1114112) (hs : Plain ws) : CmpD X .In (S w) (Tp (txts ws)) (decide (w ∈ ws)) := by
  have h := cd_inT (X := X) hr (sh_str hw) (sh_tp hs)
  rw [any_txts] at h
  exact h
theorem inV_txts {w : List Nat} : ∀ (ws : List (List Nat)), inV (.str ⟨w.toArray⟩) (ws.map fun l => V.str ⟨l.toArray⟩) = decide (w ∈ ws)
  | [] => rfl
  | x :: ws => by
    show (eqV (.str ⟨x.toArray⟩) (.str ⟨w.toArray⟩) || inV (.str ⟨w.toArray⟩) (ws.map fun l => V.str ⟨l.toArray⟩)) = _
    rw [inV_txts ws]
    have e1 : eqV (.str ⟨x.toArray⟩) (.str ⟨w.toArray⟩) = decide (x = w) := by simp only [eqV]; exact str_beq
    rw [e1]
    by_cases h1 : x = w
    · simp [h1]
    · simp [h1, Ne.symm h1]
theorem cd_notinTs {w : List Nat} {ws : List (List Nat)} : CmpD X .NotIn (S w) (Tp (txts ws)) (!decide (w ∈ ws)) := ⟨_, op_notIn_seq, fun m G H v u wd r1 r2 Q q => by
  cases ds_str r1
  obtain ⟨a, xs, rfl, h1, h2⟩ := ds_tup r2
  have e := dpa_txts h2
  subst e
  refine ⟨a, _, rfl, .inr (ex_t wd.w h1), rfl, ?_, ?_⟩
  · simp [flatV]
  · rw [if_pos rfl, inV_txts]
    exact q _ _ _ (.refl wd) (.py (.bl _))⟩
/-- an int or None -/
def oiP : Option Int → PyData
  | none => .none
  | some i => .int i
theorem oi_lay : ∀ l : List (Option Int), PyData.canLayAll0 (l.map oiP) = true
  | [] => rfl
  | x :: l => by
    rw [List.map_cons]
    simp only [PyData.canLayAll0]
    rw [oi_lay l]
    cases x <;> rfl
theorem oi_dep : ∀ l : List (Option Int), PyData.depthAll (l.map oiP) = 0
  | [] => rfl
  | x :: l => by
    rw [List.map_cons]
    simp only [PyData.depthAll]
    rw [oi_dep l]
    cases x <;> rfl
theorem oi_any : ∀ l : List (Option Int), ((l.map oiP).any fun z => PyData.eqv z .none) = l.any (·.isNone)
  | [] => rfl
  | x :: l => by
    rw [List.map_cons, List.any_cons, List.any_cons, oi_any l]
    cases x <;> rfl
theorem cd_noneIn (hr : Rm 0 X.A) {l : List (Option Int)} : CmpD X .In N0 (Ls (l.map oiP)) (l.any (·.isNone)) := ⟨_, op_inD (by have := hr.r.un; omega), fun m G H v u w r1 r2 Q q => by
  cases r1 with
  | py r1 =>
    cases r2 with
    | py r2 =>
      refine ⟨_, _, dp_mono w.w r1, dp_mono w.w r2, rfl, ?_, ?_⟩
      · unfold SeqAt.shaped
        simp only [PyData.canLay0, PyData.depth, oi_lay, oi_dep]
        decide
      · rw [oi_any]
        exact q _ _ _ (.refl w) (.py (.bl _))⟩
end
end W9
namespace W9
open PySem PySem.Spec PyProof.Rows L2
/-! ### texts in their sequence, none twice -/
abbrev Asc (l : List (List Nat)) : Prop := l.Pairwise (· < ·)
def insL (w : List Nat) : List (List Nat) → List (List Nat)
  | [] => [w]
  | x :: r => if w < x then w :: x :: r else if x < w then x :: insL w r else x :: r
def sds (ws : List (List Nat)) : List (List Nat) := ws.foldr insL []
theorem tri {a b : List Nat} (h1 : ¬ a < b) (h2 : ¬ b < a) : a = b := List.le_antisymm (by exact h2) (by exact h1)
theorem ins_mem (w : List Nat) : ∀ (l : List (List Nat)) (z : List Nat), z ∈ insL w l ↔ z = w ∨ z ∈ l
  | [], z => by simp [insL]
  | x :: r, z => by
    unfold insL
    by_cases h1 : w < x
    · rw [if_pos h1, List.mem_cons]
    · rw [if_neg h1]
      by_cases h2 : x < w
      · rw [if_pos h2, List.mem_cons, ins_mem w r z, List.mem_cons]
        exact ⟨fun h => h.elim (fun e => .inr (.inl e)) fun h => h.elim .inl fun e => .inr (.inr e), fun h => h.elim (fun e => .inr (.inl e)) fun h => h.elim .inl fun e => .inr (.inr e)⟩
      · rw [if_neg h2, tri h1 h2]
        exact ⟨.inr, fun h => h.elim (fun e => e ▸ List.mem_cons_self) id⟩
theorem ins_asc (w : List Nat) : ∀ {l : List (List Nat)}, Asc l → Asc (insL w l)
  | [], _ => List.pairwise_singleton _ _
  | x :: r, h => by
    obtain ⟨h3, h4⟩ := List.pairwise_cons.mp h
    unfold insL
    by_cases h1 : w < x
    · rw [if_pos h1]
      refine List.pairwise_cons.mpr ⟨fun y hy => ?_, h⟩
      rcases List.mem_cons.mp hy with e | e
      · rw [e]; exact h1
      · exact List.lt_trans h1 (h3 y e)
    · rw [if_neg h1]
      by_cases h2 : x < w
      · rw [if_pos h2]
        refine List.pairwise_cons.mpr ⟨fun y hy => ?_, ins_asc w h4⟩
        rcases (ins_mem w r y).mp hy with e | e
        · rw [e]; exact h2
        · exact h3 y e
      · rw [if_neg h2]
        exact h
theorem sds_mem (z : List Nat) : ∀ ws : List (List Nat), z ∈ sds ws ↔ z ∈ ws
  | [] => Iff.rfl
  | w :: ws => by
    show z ∈ insL w (sds ws) ↔ _
    rw [ins_mem, sds_mem z ws, List.mem_cons]
theorem sds_asc : ∀ ws : List (List Nat), Asc (sds ws)
  | [] => List.Pairwise.nil
  | w :: ws => ins_asc w (sds_asc ws)
theorem ins_len (w : List Nat) : ∀ l : List (List Nat), (insL w l).length ≤ l.length + 1
  | [] => Nat.le_refl _
  | x :: r => by
    have := ins_len w r
    unfold insL
    split
    · exact Nat.le_refl _
    · split
      · rw [List.length_cons, List.length_cons]; omega
      · exact Nat.le_succ _
theorem sds_len : ∀ ws : List (List Nat), (sds ws).length ≤ ws.length
  | [] => Nat.le_refl _
  | w :: ws => by
    have h1 := ins_len w (sds ws)
    have h2 := sds_len ws
    show (insL w (sds ws)).length ≤ _
    rw [List.length_cons]
    omega
theorem asc_same : ∀ {a b : List (List Nat)}, Asc a → Asc b → (∀ z, z ∈ a ↔ z ∈ b) → a = b
  | [], [], _, _, _ => rfl
  | [], y :: b, _, _, h => absurd ((h y).mpr List.mem_cons_self) (fun z => nomatch z)
  | x :: a, [], _, _, h => absurd ((h x).mp List.mem_cons_self) (fun z => nomatch z)
  | x :: a, y :: b, h1, h2, h => by
    obtain ⟨p1, p2⟩ := List.pairwise_cons.mp h1
    obtain ⟨q1, q2⟩ := List.pairwise_cons.mp h2
    have e : x = y := by
      refine tri (fun z => ?_) (fun z => ?_)
      · rcases List.mem_cons.mp ((h x).mp List.mem_cons_self) with e | e
        · rw [e] at z; exact List.lt_irrefl _ z
        · exact List.lt_irrefl _ (List.lt_trans z (q1 x e))
      · rcases List.mem_cons.mp ((h y).mpr List.mem_cons_self) with e | e
        · rw [e] at z; exact List.lt_irrefl _ z
        · exact List.lt_irrefl _ (List.lt_trans z (p1 y e))
    subst e
    refine congrArg (x :: ·) (asc_same p2 q2 fun z => ?_)
    constructor
    · intro hz
      rcases List.mem_cons.mp ((h z).mp (List.mem_cons_of_mem _ hz)) with e | e
      · exact absurd (e ▸ p1 z hz) (List.lt_irrefl _)
      · exact e
    · intro hz
      rcases List.mem_cons.mp ((h z).mpr (List.mem_cons_of_mem _ hz)) with e | e
      · exact absurd (e ▸ q1 z hz) (List.lt_irrefl _)
      · exact e
theorem nodup_of {α : Type} [DecidableEq α] : ∀ {l ss : List α}, l.Nodup → (∀ k, k ∈ l → k ∈ ss) → ss.length = l.length → ss.Perm l
  | [], ss, _, _, h => by
    rw [List.eq_nil_of_length_eq_zero h]
  | x :: r, ss, nd, h, hl => by
    obtain ⟨n1, n2⟩ := List.nodup_cons.mp nd
    have hx := h x List.mem_cons_self
    have p := List.perm_cons_erase hx
    refine p.trans (List.Perm.cons x (nodup_of n2 (fun k hk => ?_) ?_))
    · exact (List.mem_erase_of_ne (fun e => n1 (by rw [← e]; exact hk))).mpr (h k (List.mem_cons_of_mem _ hk))
    · have := p.length_eq
      rw [List.length_cons] at this hl
      omega
theorem rising_pair : ∀ (p : Str) (l : List Str), risingS p l = true → (p :: l).Pairwise (fun a b => ¬ b.cps.toList < a.cps.toList)
  | p, [], _ => List.pairwise_singleton _ _
  | p, x :: r, h => by
    have h : (!ltCps x.cps.toList p.cps.toList && risingS x r) = true := h
    rw [Bool.and_eq_true, ltCps_eq, Bool.not_eq_true', decide_eq_false_iff_not] at h
    have ih := rising_pair x r h.2
    refine List.pairwise_cons.mpr ⟨fun y hy => ?_, ih⟩
    rcases List.mem_cons.mp hy with e | e
    · rw [e]; exact h.1
    · have := (List.pairwise_cons.mp ih).1 y e
      intro z
      by_cases q : x.cps.toList < y.cps.toList
      · exact h.1 (List.lt_trans q z)
      · exact h.1 (tri this q ▸ z)
theorem sorted_pair : ∀ (l : List Str), sortedS l = true → l.Pairwise (fun a b => ¬ b.cps.toList < a.cps.toList)
  | [], _ => List.Pairwise.nil
  | x :: r, h => rising_pair x r h
theorem str_back (s : Str) : (⟨s.cps.toList.toArray⟩ : Str) = s := by cases s; simp
theorem sort_is {ss l : List Str} {ws : List (List Nat)} (h1 : sortedS ss = true) (h2 : ∀ k, k ∈ ss ↔ k ∈ l) (h3 : ss.length = l.length) (nd : l.Nodup) (h4 : ∀ z, z ∈ l ↔ z ∈ ws.map fun w => (⟨w.toArray⟩ : Str)) : ss = (sds ws).map fun w => (⟨w.toArray⟩ : Str) := by
  have hp := nodup_of nd (fun k hk => (h2 k).mpr hk) h3
  have nds : ss.Nodup := hp.nodup_iff.mpr nd
  have asc : Asc (ss.map fun s => s.cps.toList) := by
    unfold Asc
    rw [List.pairwise_map]
    refine (List.pairwise_and_iff.mpr ⟨sorted_pair ss h1, nds⟩).imp fun {a b} h => ?_
    refine Classical.byContradiction fun z => h.2 ?_
    rw [← str_back a, ← str_back b, tri z h.1]
  have e := asc_same asc (sds_asc ws) fun z => by
    rw [sds_mem]
    constructor
    · intro hz
      obtain ⟨k, hk, rfl⟩ := List.mem_map.mp hz
      obtain ⟨w, hw, e⟩ := List.mem_map.mp ((h4 k).mp ((h2 k).mp hk))
      rw [← e]
      exact hw
    · intro hz
      exact List.mem_map.mpr ⟨⟨z.toArray⟩, (h2 _).mpr ((h4 _).mpr (List.mem_map_of_mem hz)), rfl⟩
  rw [← e, List.map_map]
  exact ((List.map_congr_left fun s _ => str_back s).trans (List.map_id _)).symm
section
variable {X : Cx} {ds : DE} {m : MS} {e a b c : Expr} {es : List Expr} {pos p p2 q apos cpos : Pos}
/-- sorted(set(texts)) -/
theorem ee_sortset {ws : List (List Nat)} (h : EE X e ds (Ls (txts ws))) (hl : ws.length < 64) (hm : X.mg "sorted" = none) (hm2 : X.mg "set" = none) (hc : X.calm = true := by rfl) (hg : Gl X "sorted" := by rfl) (hg2 : Gl X "set" := by rfl)
    (hs : starEach [.Call (.Name "set" p2) [e] [] q] X.env = (false, eval (.Call (.Name "set" p2) [e] [] q) X.env) :: starEach [] X.env := by rfl) (hpl : (backTo pos (starEach [] X.env)).any (·.1) = false := by rfl)
    (hs2 : starEach [e] X.env = (false, eval e X.env) :: starEach [] X.env := by rfl) (hpl2 : (backTo q (starEach [] X.env)).any (·.1) = false := by rfl) :
    EE X (.Call (.Name "sorted" p) [.Call (.Name "set" p2) [e] [] q] [] pos) ds (Ls (txts (sds ws))) := fun m σ G H E w Q k =>
  oE (pe_callB (cr_sortT2 hc) hg hm (by decide +kernel) (pa_cons (pe_callTy (cr_setT hc) hg2 hm2 (by decide +kernel) (pA [e]) (by decide) (by decide) hs2 hpl2) pa_nil hs) (by decide) (by decide) hs hpl) ((ea_cons h ea_nil hs2 : EA X [e] ds _) m σ G H E w _ fun vs xs m1 G1 H1 g1 r1 ⟨e1, e2⟩ => by
    subst e1 e2
    cases r1 with
    | cons r1 r2 =>
      cases r2
      obtain ⟨f, us, rfl, h1, h2⟩ := ds_lst r1
      have e := dpa_txts h2
      subst e
      have e : (ws.map fun l => V.str ⟨l.toArray⟩) = (ws.map fun w => (⟨w.toArray⟩ : Str)).map V.str := by rw [List.map_map]; rfl
      refine ⟨f, ws.map fun w => (⟨w.toArray⟩ : Str), rfl, by rw [← e]; exact ex_l g1.wd.w h1, by rw [List.length_map]; omega, fun l p hmem nd hlen hp => ?_⟩
      rw [List.length_map] at hlen
      have g2 := Gr.new (o := SetTx X.prog X.w p l) g1.wd hp
      refine ⟨p, l, rfl, upd_same, by omega, fun ss p2 s1 s2 s3 hp2 => ?_⟩
      have es := sort_is s1 s2 s3 nd hmem
      subst es
      have g3 := Gr.new (o := .lst ((sds ws).map fun l => V.str ⟨l.toArray⟩)) g2.wd hp2
      rw [List.map_map]
      exact k _ _ _ _ _ ((g1.trans g2).trans g3) (.py (.lst (SqL.of upd_same) (txts_dpa _))) ⟨rfl, rfl⟩)
/-- list(zip(a, b)) -/
def zipP (l k : List PyData) : List PyData := (List.zip l k).map fun q => .tuple [q.1, q.2]
theorem gr_pairs {K : PySem.W.Frag} : ∀ (Ts : List Addr) {xs ys : List V} {l k : List PyData} {G H : Hp}, Wd K m G H → DpAll K G xs l → DpAll K G ys k → Ts.length = min xs.length ys.length → Ts.Nodup → (∀ T ∈ Ts, H T = none) →
    ∃ G', Gr K m m G H G' (addAll H (zH Ts xs ys)) ∧ DpAll K G' (Ts.map V.ref) (zipP l k)
  | [], xs, ys, l, k, G, H, w, h1, h2, hl, _, _ => by
    refine ⟨G, by unfold zH addAll; exact .refl w, ?_⟩
    have e1 := dpa_length h1
    have e2 := dpa_length h2
    have e : zipP l k = [] := by
      unfold zipP
      rw [List.map_eq_nil_iff]
      refine List.eq_nil_of_length_eq_zero ?_
      rw [List.length_zip]
      simp only [List.length_nil] at hl
      omega
    rw [e]
    exact .nil
  | T :: Ts, _, _, _, _, G, H, w, .nil, h2, hl, _, _ => by simp at hl
  | T :: Ts, _ :: _, _, _, _, G, H, w, .cons a r, .nil, hl, _, _ => by simp at hl
  | T :: Ts, x :: xs, y :: ys, d1 :: l, d2 :: k, G, H, w, .cons a r, .cons b r2, hl, nd, hf => by
    obtain ⟨n1, n2⟩ := List.nodup_cons.mp nd
    have g := Gr.new (o := .tup [x, y]) w (hf T List.mem_cons_self)
    obtain ⟨G', g2, hd⟩ := gr_pairs Ts g.wd (dpa_mono g.g r) (dpa_mono g.g r2) (by simp only [List.length_cons] at hl; omega) n2 fun T' hT => by
      rw [upd_ne (fun z => n1 (by rw [← z]; exact hT))]
      exact hf T' (List.mem_cons_of_mem _ hT)
    refine ⟨G', g.trans g2, .cons ?_ hd⟩
    exact .tup (SqT.of (g2.g T _ upd_same)) (.cons (dp_mono (g.trans g2).g a) (.cons (dp_mono (g.trans g2).g b) .nil))
theorem ee_listZip {l k : List PyData} (h : EE X a ds (Ls l)) (h2 : EE X b ds (Ls k)) (hz : min l.length k.length ≤ 1000000) (hm : X.mg "list" = none) (hm2 : X.mg "zip" = none) (hc : X.calm = true := by rfl) (hg : Gl X "list" := by rfl) (hg2 : Gl X "zip" := by rfl)
    (hs : starEach [a, b] X.env = (false, eval a X.env) :: starEach [b] X.env := by rfl) (hpl : (backTo q (starEach [b] X.env)).any (·.1) = false := by rfl) (hs3 : starEach [b] X.env = (false, eval b X.env) :: starEach [] X.env := by rfl)
    (hs2 : starEach [.Call (.Name "zip" p2) [a, b] [] q] X.env = (false, eval (.Call (.Name "zip" p2) [a, b] [] q) X.env) :: starEach [] X.env := by rfl) (hpl2 : (backTo pos (starEach [] X.env)).any (·.1) = false := by rfl) :
    EE X (.Call (.Name "list" p) [.Call (.Name "zip" p2) [a, b] [] q] [] pos) ds (Ls (zipP l k)) := fun m σ G H E w Q kk =>
  oE (pe_listZip hc hg hm hg2 hm2 (pA [a, b]) hs hpl hs2 hpl2) ((ea_cons h (ea_cons h2 ea_nil hs3) hs : EA X [a, b] ds _) m σ G H E w _ fun vs xs m1 G1 H1 g1 r1 ⟨e1, e2⟩ => by
    subst e1 e2
    cases r1 with
    | cons r1 r2 =>
      cases r2 with
      | cons r2 r3 =>
        cases r3
        obtain ⟨f1, us, rfl, s1, s2⟩ := ds_lst r1
        obtain ⟨f2, ws, rfl, s3, s4⟩ := ds_lst r2
        have l1 := dpa_length s2
        have l2 := dpa_length s4
        refine ⟨f1, f2, us, ws, rfl, ex_l g1.wd.w s1, ex_l g1.wd.w s3, by omega, fun Ts p hl nd hf => ?_⟩
        obtain ⟨n1, n2⟩ := List.nodup_cons.mp nd
        obtain ⟨G', g2, hd⟩ := gr_pairs Ts g1.wd s2 s4 hl n2 fun T hT => hf T (List.mem_cons_of_mem _ hT)
        have hp : addAll H1 (zH Ts us ws) p = none := by
          rw [addAll_ne (by rw [zH_fst (by omega) (by omega)]; exact n1)]
          exact hf p List.mem_cons_self
        have g3 := Gr.new (o := .lst (Ts.map V.ref)) g2.wd hp
        exact kk _ _ _ _ _ ((g1.trans g2).trans g3) (.py (.lst (SqL.of upd_same) (dpa_mono g3.g hd))) ⟨rfl, rfl⟩)
end
end W9
namespace W9
open PySem PySem.Spec PyProof.Rows L2
section
variable {X : Cx} {ds : DE} {m : MS} {e a b c : Expr} {es : List Expr} {pos p p2 q apos cpos : Pos}
theorem upd_over {H : Hp} {p : Addr} {o o' : HO} : upd (upd H p o) p o' = upd H p o' := funext fun a => by
  by_cases e : a = p
  · subst e; rw [upd_same, upd_same]
  · rw [upd_ne e, upd_ne e, upd_ne e]
/-- {'l': 'leaf', 'f': 'fork'}.get(text) -/
def kindP (w : List Nat) : PyData := if w = [108] then .str ⟨([108, 101, 97, 102] : List Nat).toArray⟩ else if w = [102] then .str ⟨([102, 111, 114, 107] : List Nat).toArray⟩ else .none
abbrev kindK : List (Key × V) := [(Sum.inr ⟨([108] : List Nat).toArray⟩, V.str ⟨([108, 101, 97, 102] : List Nat).toArray⟩), (Sum.inr ⟨([102] : List Nat).toArray⟩, V.str ⟨([102, 111, 114, 107] : List Nat).toArray⟩)]
theorem kind_get (w : List Nat) {K : PySem.W.Frag} {G : Hp} : Dp K G ((valV (mergeK [] kindK) (Sum.inr ⟨w.toArray⟩)).getD .non) (kindP w) := by
  have e : mergeK [] kindK = kindK := by decide +kernel
  rw [e]
  unfold kindP
  by_cases h1 : w = [108]
  · subst h1
    exact .str _
  · rw [if_neg h1]
    by_cases h2 : w = [102]
    · subst h2
      exact .str _
    · rw [if_neg h2]
      have n1 : ¬ ((Sum.inr ⟨([108] : List Nat).toArray⟩ : Key) = Sum.inr ⟨w.toArray⟩) := fun z => h1 (str_inj.mp (Sum.inr.inj z)).symm
      have n2 : ¬ ((Sum.inr ⟨([102] : List Nat).toArray⟩ : Key) = Sum.inr ⟨w.toArray⟩) := fun z => h2 (str_inj.mp (Sum.inr.inj z)).symm
      have z : valV kindK (Sum.inr ⟨w.toArray⟩) = none := by
        unfold valV
        rw [List.find?_cons_of_neg (by simpa using n1), List.find?_cons_of_neg (by simpa using n2)]
        rfl
      rw [z]
      exact .non
theorem ee_kind {w : List Nat} {j1 j2 j3 j4 : Nat} {q1 q2 q3 q4 : Pos} {s1 s2 s3 s4 : Str} (hr : Rm 0 X.A) (h : EE X e ds (S w)) (h1 : s1 = ⟨([108] : List Nat).toArray⟩ := by first | rfl | decide +kernel) (h2 : s2 = ⟨([102] : List Nat).toArray⟩ := by first | rfl | decide +kernel) (h3 : s3 = ⟨([108, 101, 97, 102] : List Nat).toArray⟩ := by first | rfl | decide +kernel) (h4 : s4 = ⟨([102, 111, 114, 107] : List Nat).toArray⟩ := by first | rfl | decide +kernel)
    (mm : M1 X (.Dict [some (.Constant (.str s1) j1 q1), some (.Constant (.str s2) j2 q2)] [.Constant (.str s3) j3 q3, .Constant (.str s4) j4 q4] p) "get" apos e cpos := by exact ⟨rfl, rfl, rfl, rfl⟩) :
    EE X (.Call (.Attribute (.Dict [some (.Constant (.str s1) j1 q1), some (.Constant (.str s2) j2 q2)] [.Constant (.str s3) j3 q3, .Constant (.str s4) j4 q4] p) "get" apos) [e] [] cpos) ds (.py (kindP w)) := fun m σ G H E wd Q k => by
  subst h1 h2 h3 h4
  refine oE (pe_dget1 (by have := hr.r.un; omega) (pe_disp (pps_cons pe_str pe_str (pps_cons pe_str pe_str pps_nil)) rfl rfl (by simp) (Nat.le_of_ble_eq_true rfl)) (pE e) mm) fun p hp => ⟨upd_same, kindK, rfl, by decide, ?_⟩
  rw [upd_over]
  have g := Gr.new (o := .dK (mergeK [] kindK)) wd hp
  refine ⟨p, rfl, .inl ⟨_, .inl upd_same⟩, h m σ _ _ (E.mono g.g) g.wd _ fun v d m1 G1 H1 g1 r1 ⟨e1, e2⟩ => ?_⟩
  subst e1 e2
  cases ds_str r1
  refine ⟨valV (mergeK [] kindK) (Sum.inr ⟨w.toArray⟩), .inl ⟨mergeK [] kindK, Sum.inr ⟨w.toArray⟩, .inl (g1.wd.w p _ (g1.g p _ upd_same)), rfl, rfl⟩, ?_⟩
  exact k _ _ _ _ _ (g.trans g1) (.py (kind_get w)) ⟨rfl, rfl⟩
/-- l.extend([..]) of an owned list -/
theorem ws_ext {o : Expr} {p : Addr} {l l' : List PyData} {q2 : Pos} {E : ED} (ho : EE X o ds (.raw (.ref p))) (hm : (p, OV.dl l) ∈ m) (h : EAp X es ds l') (hz : l.length + l'.length ≤ 1000000) (hn : E.nx ds (mset m p (.dl (l ++ l'))))
    (hl1000 : l'.length ≤ 1000000 := by first | decide | simp)
    (hbase : attributeBase o "extend" X.env (eval o X.env) = eval o X.env := by rfl)
    (hfew : ((backTo cpos (starEach ((.List es q2) :: []) X.env)).all (fun x => !x.1) && (backToKw cpos (keywordEach [] X.env)).all (fun x => x.1.isSome)
      && decide (((.List es q2 : Expr) :: ([] : List Expr)).length + ([] : List Keyword).length + (if ([] : List Keyword).isEmpty then 0 else 1) < 30)) = true := by rfl)
    (hline : (apos.endLine == cpos.line) = true := by rfl) (hs : starEach ((.List es q2) :: []) X.env = (false, eval (.List es q2) X.env) :: starEach [] X.env := by rfl) (hplain : (backTo cpos (starEach [] X.env)).any (·.1) = false := by rfl)
    (hsw : swapsWith (.Call (.Attribute o "extend" apos) [.List es q2] [] cpos) none pos.line X.env = pure false := by rfl) : WS X (.Expr (.Call (.Attribute o "extend" apos) [.List es q2] [] cpos) pos) ds m E := fun σ G H e0 w D k =>
  oS (ps_expr (pe_bm PySem.F.plainAttrs_list PySem.F.slot_list_extend PySem.F.type_list_extend mt_extend (pE o) (pa_cons (pe_lst (pA es)) pa_nil hs) hbase hfew hline hs hplain) hsw) (by
    refine ho m σ G H e0 w _ fun ov od m1 G1 H1 g1 r1 ⟨e1, e2⟩ => ?_
    subst e1 e2
    cases ds_raw r1
    obtain ⟨vs0, h1, _⟩ := own_get g1.wd hm
    refine ⟨.inl ⟨rfl, vs0, SqL.of h1⟩, ?_⟩
    refine h m1 σ G1 H1 (e0.mono g1.g) g1.wd _ fun ws xs m2 G2 H2 g2 r2 ⟨e1, e2⟩ => ?_
    subst e1 e2
    have r3 := dss_py r2
    have lw := dpa_length r3
    refine ⟨by have := sizeLine_eq; omega, fun b hb => ?_⟩
    obtain ⟨vs, h3, h4⟩ := own_get g2.wd hm
    have hlen := dpa_length h4
    have g3 := Gr.new (o := .lst ws) g2.wd hb
    obtain ⟨vs2, h5, h6⟩ := own_get g3.wd hm
    have hl2 := dpa_length h6
    refine ⟨p, b, vs2, ws, rfl, rfl, h5, upd_same, by have := sizeLine_eq; omega, ?_⟩
    have g4 := Gr.set (o := .lst (vs2 ++ ws)) (v := .dl (l ++ l')) g3.wd hm ⟨_, rfl, dpa_append h6 (dpa_mono g3.g r3)⟩
    exact k.nx _ _ _ _ _ (((g1.trans g2).trans g3).trans g4) (e0.mono (((g1.trans g2).trans g3).trans g4).g) hn)
end
end W9
namespace W9
open PySem PySem.Spec PyProof.Rows L2
/-! ### whole numbers as words -/
abbrev figs : List Nat := [48, 49, 50, 51, 52, 53, 54, 55, 56, 57]
def figB (w : List Nat) : Bool := w.all fun c => decide (c ∈ figs)
theorem fig_iff {c : Nat} : c ∈ figs ↔ 48 ≤ c ∧ c ≤ 57 := by
  simp only [figs, List.mem_cons, List.not_mem_nil, or_false]
  omega
theorem figB_iff {w : List Nat} : figB w = true ↔ ∀ c ∈ w, 48 ≤ c ∧ c ≤ 57 := by
  unfold figB
  rw [List.all_eq_true]
  exact ⟨fun h c hc => fig_iff.mp (of_decide_eq_true (h c hc)), fun h c hc => decide_eq_true (fig_iff.mpr (h c hc))⟩
abbrev valN (w : List Nat) : Nat := NumText.digitsVal w
theorem val_snoc (u : List Nat) (c : Nat) : valN (u ++ [c]) = valN u * 10 + (c - 48) := by
  unfold valN NumText.digitsVal
  rw [List.foldl_append]
  rfl
theorem fold_ge : ∀ (l : List Nat) (a : Nat), a ≤ l.foldl (fun acc c => acc * 10 + (c - 48)) a
  | [], a => Nat.le_refl a
  | c :: l, a => by
    rw [List.foldl_cons]
    exact Nat.le_trans (by omega) (fold_ge l _)
theorem val_pos {c : Nat} {l : List Nat} (h : 48 < c) : 1 ≤ valN (c :: l) := by
  unfold valN NumText.digitsVal
  rw [List.foldl_cons]
  exact Nat.le_trans (by omega) (fold_ge l _)
theorem fold_lt : ∀ (l : List Nat) (a : Nat), (∀ c ∈ l, 48 ≤ c ∧ c ≤ 57) → l.foldl (fun acc c => acc * 10 + (c - 48)) a < (a + 1) * 10 ^ l.length
  | [], a, _ => by simp
  | c :: l, a, h => by
    rw [List.foldl_cons, List.length_cons, Nat.pow_succ]
    have hc := h c List.mem_cons_self
    have ih := fold_lt l (a * 10 + (c - 48)) fun d hd => h d (List.mem_cons_of_mem _ hd)
    refine Nat.lt_of_lt_of_le ih ?_
    rw [Nat.mul_comm (10 ^ l.length) 10, ← Nat.mul_assoc]
    exact Nat.mul_le_mul_right _ (by omega)
theorem val_lt {l : List Nat} (h : figB l = true) : valN l < 10 ^ l.length := by
  have := fold_lt l 0 (figB_iff.mp h)
  unfold valN NumText.digitsVal
  omega
theorem numL_head : ∀ (n : Nat), 0 < n → ∃ c r, TL.numL n = c :: r ∧ 48 < c := by
  intro n
  induction n using Nat.strongRecOn with
  | _ n ih =>
    intro h
    by_cases h10 : n < 10
    · rw [TL.numL_lt h10]
      exact ⟨48 + n, [], by simp, by omega⟩
    · obtain ⟨c, r, e, hc⟩ := ih (n / 10) (by omega) (by omega)
      rw [TL.numL_step (by omega), e]
      exact ⟨c, _, rfl, hc⟩
/-- its own text, back -/
theorem num_back : ∀ (k : Nat) (w : List Nat), w.length = k → w ≠ [] → (∀ c ∈ w, 48 ≤ c ∧ c ≤ 57) → (w = [48] ∨ w.head? ≠ some 48) → TL.numL (valN w) = w
  | 0, w, hl, hne, _, _ => absurd (List.eq_nil_of_length_eq_zero hl) hne
  | k + 1, w, hl, hne, hd, h0 => by
    obtain ⟨u, c, rfl⟩ : ∃ u c, w = u ++ [c] := ⟨w.dropLast, w.getLast hne, (List.dropLast_concat_getLast hne).symm⟩
    have hc := hd c (by simp)
    rw [val_snoc]
    by_cases hu : u = []
    · subst hu
      have e : valN [] * 10 + (c - 48) = c - 48 := by simp [valN, NumText.digitsVal]
      rw [e, TL.numL_lt (by omega)]
      simp
      omega
    · have hh : u.head? ≠ some 48 := by
        rcases h0 with e | e
        · have := congrArg List.length e
          rw [List.length_append] at this
          have : u.length = 0 := by simpa using this
          exact absurd (List.eq_nil_of_length_eq_zero this) hu
        · cases u with
          | nil => exact absurd rfl hu
          | cons x r => simpa using e
      have ih := num_back k u (by simpa using hl) hu (fun c hc => hd c (List.mem_append_left _ hc)) (.inr hh)
      have vp : 1 ≤ valN u := by
        cases u with
        | nil => exact absurd rfl hu
        | cons x r =>
          have hx := hd x (by simp)
          have : x ≠ 48 := by simpa using hh
          exact val_pos (by omega)
      rw [TL.numL_step (by omega), show (valN u * 10 + (c - 48)) / 10 = valN u by omega, ih, show 48 + (valN u * 10 + (c - 48)) % 10 = c by omega]
theorem num_not {w : List Nat} (hl : 2 ≤ w.length) (h : w.head? = some 48) (n : Nat) : TL.numL n ≠ w := fun e => by
  by_cases z : n = 0
  · subst z
    rw [TL.numL_lt (by decide)] at e
    rw [← e] at hl
    simp at hl
  · obtain ⟨c, r, e2, hc⟩ := numL_head n (by omega)
    rw [← e, e2] at h
    have : c = 48 := by simpa using h
    omega
/-- the law's own reading of a number -/
def lawNum (w : List Nat) : Option Int := if (decide (1 ≤ w.length) && decide (w.length ≤ 12)) = true ∧ figB w = true then (if w = [48] ∨ w.head? ≠ some 48 then some ((valN w : Nat) : Int) else none) else none
/-- the program's -/
def figOf (w : List Nat) : List Nat := if w.take 1 = [45] then w.drop 1 else w
def ivalW (w : List Nat) : Int := if w.take 1 = [45] then -((valN (w.drop 1) : Nat) : Int) else ((valN w : Nat) : Int)
def longW (w : List Nat) : Option Int := if (decide (1 ≤ (figOf w).length) && decide ((figOf w).length ≤ 113)) = true ∧ figB (figOf w) = true then (if intS (ivalW w) = w then some (ivalW w) else none) else none
def wholeW (w : List Nat) : Option Int := if (figOf w).length ≤ 12 then longW w else none
theorem text_int {w : List Nat} (hl : w.length ≤ 1000) (h1 : figB (figOf w) = true) (h2 : 1 ≤ (figOf w).length) : PySem.intText? ⟨w.toArray⟩ = some (ivalW w) := by
  unfold ivalW
  unfold figOf at h1 h2
  by_cases h : w.take 1 = [45]
  · rw [if_pos h] at h1 h2 ⊢
    have e : w = 45 :: w.drop 1 := by
      cases w with
      | nil => simp at h
      | cons x r => simpa using h
    refine PySem.intText_neg (cs := w.drop 1) (by simpa using e) (figB_iff.mp h1) (fun z => ?_) ?_
    · rw [z] at h2; simp at h2
    · rw [str_len]; omega
  · rw [if_neg h] at h1 h2 ⊢
    have := PySem.intText_digits (x := ⟨w.toArray⟩) (show NumText.AllDigits w from figB_iff.mp h1) (fun z => by
      have z : w = [] := by simpa using z
      rw [z] at h2
      simp at h2) (by rw [str_len]; omega)
    simpa using this
theorem whole_plain {w : List Nat} (h : w.take 1 ≠ [45]) : wholeW w = lawNum w := by
  unfold wholeW longW lawNum figOf ivalW
  rw [if_neg h, if_neg h]
  by_cases h12 : w.length ≤ 12
  · rw [if_pos h12]
    by_cases hg : 1 ≤ w.length ∧ figB w = true
    · have c1 : (decide (1 ≤ w.length) && decide (w.length ≤ 113)) = true ∧ figB w = true := ⟨by rw [Bool.and_eq_true, decide_eq_true_eq, decide_eq_true_eq]; omega, hg.2⟩
      have c2 : (decide (1 ≤ w.length) && decide (w.length ≤ 12)) = true ∧ figB w = true := ⟨by rw [Bool.and_eq_true, decide_eq_true_eq, decide_eq_true_eq]; omega, hg.2⟩
      rw [if_pos c1, if_pos c2, intS_num]
      by_cases hz : w = [48] ∨ w.head? ≠ some 48
      · rw [if_pos hz, if_pos (num_back _ w rfl (fun z => by rw [z] at hg; simp at hg) (figB_iff.mp hg.2) hz)]
      · rw [if_neg hz, if_neg]
        rw [not_or, Decidable.not_not] at hz
        refine num_not ?_ hz.2 _
        cases w with
        | nil => simp at hz
        | cons x r =>
          cases r with
          | nil => exact absurd (by simpa using hz.2) (by simpa using hz.1)
          | cons y r => simp
    · rw [if_neg, if_neg]
      · intro z
        refine hg ⟨?_, z.2⟩
        have := z.1
        simp at this
        omega
      · intro z
        refine hg ⟨?_, z.2⟩
        have := z.1
        simp at this
        omega
  · rw [if_neg h12, if_neg]
    intro z
    have := z.1
    simp at this
    omega
theorem whole_minus {w : List Nat} (h : w.take 1 = [45]) : lawNum w = none ∧ (wholeW w = none ∨ ∃ i : Int, i < 0 ∧ wholeW w = some i) := by
  obtain ⟨r, rfl⟩ : ∃ r, w = 45 :: r := by
    cases w with
    | nil => simp at h
    | cons x r => exact ⟨r, by simpa using h⟩
  refine ⟨?_, ?_⟩
  · unfold lawNum
    rw [if_neg]
    intro z
    have := figB_iff.mp z.2 45 List.mem_cons_self
    omega
  · unfold wholeW longW
    by_cases h12 : (figOf (45 :: r)).length ≤ 12
    · rw [if_pos h12]
      split
      · by_cases e : intS (ivalW (45 :: r)) = 45 :: r
        · rw [if_pos e]
          refine .inr ⟨_, ?_, rfl⟩
          have ei : ivalW (45 :: r) = -((valN r : Nat) : Int) := by unfold ivalW; rw [if_pos h]; rfl
          rw [ei] at e ⊢
          by_cases z : valN r = 0
          · rw [z] at e
            have : intS (-((0 : Nat) : Int)) = [48] := by decide +kernel
            rw [this] at e
            simp at e
          · omega
        · rw [if_neg e]
          exact .inl rfl
      · exact .inl rfl
    · rw [if_neg h12]
      exact .inl rfl
theorem law_range {w : List Nat} {i : Int} (h : lawNum w = some i) : 0 ≤ i ∧ i ≤ 999999999999 := by
  unfold lawNum at h
  split at h
  · rename_i hc
    split at h
    · cases h
      have h1 := val_lt hc.2
      have h2 := hc.1
      simp at h2
      have : 10 ^ w.length ≤ 10 ^ 12 := Nat.pow_le_pow_right (by decide) h2.2
      omega
    · cases h
  · cases h
end W9
namespace W9
open PySem PySem.Spec PyProof.Rows L2
/-! ### sheets and their page texts -/
inductive Tl where
  | v (w : List Nat)
  | n (i : Int)
  | nw (i : Int)
def tlP : Tl → PyData
  | .v w => .str ⟨w.toArray⟩
  | .n i => .int i
  | .nw i => .tuple [.str ⟨([110, 101, 119] : List Nat).toArray⟩, .int i]
abbrev Ent : Type := List Nat × Tl
def entP (q : Ent) : PyData := .tuple [.str ⟨q.1.toArray⟩, tlP q.2]
abbrev nLeaf : List Nat := [108, 101, 97, 102]
abbrev nFork : List Nat := [102, 111, 114, 107]
abbrev nNew : List Nat := [110, 101, 119]
structure Sh where
  leaf : Bool
  es : List Ent
def kdS (b : Bool) : List Nat := if b = true then nLeaf else nFork
def shP (s : Sh) : PyData := .tuple [.str ⟨(kdS s.leaf).toArray⟩, .tuple (s.es.map entP)]
def shO : Option Sh → PyData
  | none => .none
  | some s => shP s
/-- signs, as both sides test them -/
def sgB (lo hi f : Nat) (w : List Nat) : Bool := (decide (lo ≤ w.length) && decide (w.length ≤ hi)) && w.all fun c => decide (f ≤ c)
abbrev kOk (w : List Nat) : Bool := sgB 1 13 33 w
abbrev vOk (w : List Nat) : Bool := sgB 1 13 32 w
def inR (i : Int) : Bool := decide (0 ≤ i) && decide (i ≤ 999999999999)
def tlOk : Tl → Bool
  | .v w => vOk w
  | .n i => inR i
  | .nw i => inR i
def chain (l : List (List Nat)) : Bool := (List.zip l (l.drop 1)).all fun q => decide (q.1 < q.2)
def lowOf (leaf : Bool) : Nat := if leaf = true then 1 else 2
def isSheetB (s : Sh) : Bool := (decide (lowOf s.leaf ≤ s.es.length) && decide (s.es.length ≤ 4)) && (((s.es.all fun q => kOk q.1) && chain (s.es.map (·.1))) && s.es.all fun q => tlOk q.2)
theorem chain_cons (x y : List Nat) (l : List (List Nat)) : chain (x :: y :: l) = (decide (x < y) && chain (y :: l)) := rfl
theorem chain_asc : ∀ l : List (List Nat), chain l = true ↔ Asc l
  | [] => ⟨fun _ => List.Pairwise.nil, fun _ => rfl⟩
  | [x] => ⟨fun _ => List.pairwise_singleton _ _, fun _ => rfl⟩
  | x :: y :: l => by
    rw [chain_cons, Bool.and_eq_true, decide_eq_true_eq, chain_asc (y :: l)]
    constructor
    · rintro ⟨h1, h2⟩
      refine List.pairwise_cons.mpr ⟨fun z hz => ?_, h2⟩
      rcases List.mem_cons.mp hz with e | e
      · rw [e]; exact h1
      · exact List.lt_trans h1 ((List.pairwise_cons.mp h2).1 z e)
    · intro h
      obtain ⟨h1, h2⟩ := List.pairwise_cons.mp h
      exact ⟨h1 y List.mem_cons_self, h2⟩
theorem sds_same (l : List (List Nat)) : l = sds l ↔ chain l = true := by
  rw [chain_asc]
  constructor
  · intro h; rw [h]; exact sds_asc l
  · intro h; exact asc_same h (sds_asc l) fun z => (sds_mem z l).symm
/-- the program's reading of a page text -/
def keysOf (t : List Nat) : List (List Nat) := alt ((lns t).drop 1)
def toldOf (t : List Nat) : List (List Nat) := alt ((lns t).drop 2)
def head0 (t : List Nat) : List Nat := (lns t).headD []
def headOk (t : List Nat) : Bool := (decide (head0 t = [108]) || decide (head0 t = [102])) && !decide ((lns t).length % 2 = 0)
def leafSh (t : List Nat) : Sh := ⟨true, List.zip (keysOf t) ((toldOf t).map .v)⟩
def forkSh (t : List Nat) (ns : List Int) : Sh := ⟨false, List.zip (keysOf t) (ns.map .n)⟩
def pick (s : Sh) : Option Sh := if isSheetB s = true then some s else none
def readP (t : List Nat) : Option Sh :=
  if headOk t = true then
    if head0 t = [102] then
      if ((toldOf t).map wholeW).any (·.isNone) = true then none else pick (forkSh t ((toldOf t).filterMap wholeW))
    else pick (leafSh t)
  else none
/-- the law's -/
def keysGood (t : List Nat) (leaf : Bool) : Bool := (decide (lowOf leaf ≤ (keysOf t).length) && decide ((keysOf t).length ≤ 4)) && (keysOf t).all kOk
def lawRead (t : List Nat) : Option Sh :=
  if headOk t = true then
    if head0 t = [102] then
      if keysGood t false = true then
        if (!decide (keysOf t = sds (keysOf t))) = true ∨ ((toldOf t).map lawNum).any (·.isNone) = true then none else some (forkSh t ((toldOf t).filterMap lawNum))
      else none
    else if keysGood t true = true then
        if (!decide (keysOf t = sds (keysOf t))) = true then none else if (toldOf t).all vOk = true then some (leafSh t) else none
      else none
  else none
theorem kt_len {t : List Nat} (h : headOk t = true) : (keysOf t).length = (toldOf t).length := by
  unfold headOk at h
  rw [Bool.and_eq_true] at h
  have := h.2
  unfold keysOf toldOf
  rw [alt_len, alt_len, List.length_drop, List.length_drop]
  simp at this
  omega
theorem zip_fst {α β : Type} : ∀ {a : List α} {b : List β}, a.length ≤ b.length → (List.zip a b).map (·.1) = a
  | [], _, _ => rfl
  | x :: a, [], h => by simp at h
  | x :: a, y :: b, h => congrArg (x :: ·) (zip_fst (by simpa using h))
theorem all_fst {α β : Type} {p : α → Bool} {l : List (α × β)} : (l.all fun q => p q.1) = (l.map (·.1)).all p := by rw [List.all_map]; rfl
theorem all_snd {α β : Type} {p : β → Bool} {l : List (α × β)} : (l.all fun q => p q.2) = (l.map (·.2)).all p := by rw [List.all_map]; rfl
theorem zip_snd {α β : Type} : ∀ {a : List α} {b : List β}, b.length ≤ a.length → (List.zip a b).map (·.2) = b
  | _, [], _ => by simp
  | [], y :: b, h => by simp at h
  | x :: a, y :: b, h => congrArg (y :: ·) (zip_snd (by simpa using h))
theorem sheet_zip {leaf : Bool} {ks : List (List Nat)} {ts : List Tl} (h : ks.length = ts.length) : isSheetB ⟨leaf, List.zip ks ts⟩ = ((decide (lowOf leaf ≤ ks.length) && decide (ks.length ≤ 4)) && ((ks.all kOk && chain ks) && ts.all tlOk)) := by
  unfold isSheetB
  dsimp only
  rw [all_fst (p := kOk), all_snd (p := tlOk), zip_fst (Nat.le_of_eq h), zip_snd (Nat.le_of_eq h.symm), List.length_zip, Nat.min_eq_left (Nat.le_of_eq h)]
theorem fm_all {α β : Type} {f : α → Option β} : ∀ {l : List α}, (l.map f).any (·.isNone) = false → (l.filterMap f).length = l.length ∧ ∀ y ∈ l.filterMap f, ∃ x ∈ l, f x = some y
  | [], _ => ⟨rfl, fun y hy => nomatch hy⟩
  | x :: l, h => by
    rw [List.map_cons, List.any_cons, Bool.or_eq_false_iff] at h
    obtain ⟨h1, h2⟩ := fm_all h.2
    cases e : f x with
    | none => rw [e] at h; simp at h
    | some y =>
      rw [List.filterMap_cons_some e]
      refine ⟨by rw [List.length_cons, List.length_cons, h1], fun z hz => ?_⟩
      rcases List.mem_cons.mp hz with q | q
      · exact ⟨x, List.mem_cons_self, by rw [q]; exact e⟩
      · obtain ⟨a, b, c⟩ := h2 z q
        exact ⟨a, List.mem_cons_of_mem _ b, c⟩
theorem fm_congr {α β : Type} {f g : α → Option β} : ∀ {l : List α}, (∀ x ∈ l, f x = g x) → l.filterMap f = l.filterMap g ∧ l.map f = l.map g
  | [], _ => ⟨rfl, rfl⟩
  | x :: l, h => by
    obtain ⟨h1, h2⟩ := fm_congr (l := l) fun y hy => h y (List.mem_cons_of_mem _ hy)
    have e := h x List.mem_cons_self
    refine ⟨?_, by rw [List.map_cons, List.map_cons, e, h2]⟩
    cases q : g x with
    | none => rw [List.filterMap_cons_none (e.trans q), List.filterMap_cons_none q, h1]
    | some y => rw [List.filterMap_cons_some (e.trans q), List.filterMap_cons_some q, h1]
/-- both readings agree -/
theorem read_same (t : List Nat) : readP t = lawRead t := by
  unfold readP lawRead
  by_cases hh : headOk t = true
  · rw [if_pos hh, if_pos hh]
    have hl := kt_len hh
    by_cases hf : head0 t = [102]
    · rw [if_pos hf, if_pos hf]
      by_cases hm : ∀ w ∈ toldOf t, w.take 1 ≠ [45]
      · obtain ⟨e1, e2⟩ := fm_congr fun w hw => whole_plain (hm w hw)
        rw [e1, e2]
        cases hn : ((toldOf t).map lawNum).any (·.isNone) with
        | true =>
          rw [if_pos rfl]
          split
          · rw [if_pos (.inr rfl)]
          · rfl
        | false =>
          rw [if_neg Bool.false_ne_true]
          obtain ⟨f1, f2⟩ := fm_all hn
          unfold pick forkSh
          rw [sheet_zip (by rw [List.length_map, f1, hl])]
          have hr : (((toldOf t).filterMap lawNum).map Tl.n).all tlOk = true := by
            rw [List.all_eq_true]
            intro x hx
            obtain ⟨i, hi, rfl⟩ := List.mem_map.mp hx
            obtain ⟨w, _, hw⟩ := f2 i hi
            have := law_range hw
            show inR i = true
            unfold inR
            rw [Bool.and_eq_true, decide_eq_true_eq, decide_eq_true_eq]
            exact this
          rw [hr, Bool.and_true]
          unfold keysGood
          by_cases hc : keysOf t = sds (keysOf t)
          · have hc2 := (sds_same _).mp hc
            rw [hc2, Bool.and_true]
            by_cases hg : ((decide (lowOf false ≤ (keysOf t).length) && decide ((keysOf t).length ≤ 4)) && (keysOf t).all kOk) = true
            · rw [if_pos hg, if_pos hg, if_neg]
              simp [← hc]
            · rw [if_neg hg, if_neg hg]
          · have hc2 : chain (keysOf t) = false := by
              cases q : chain (keysOf t) with
              | false => rfl
              | true => exact absurd ((sds_same _).mpr q) hc
            rw [hc2, Bool.and_false, Bool.and_false, if_neg Bool.false_ne_true]
            split
            · rw [if_pos (.inl (by simp [hc]))]
            · rfl
      · obtain ⟨w, hw⟩ := Classical.not_forall.mp hm
        obtain ⟨hw1, hw2⟩ := Classical.not_imp.mp hw
        obtain ⟨g1, g2⟩ := whole_minus (Decidable.not_not.mp hw2)
        have hn : ((toldOf t).map lawNum).any (·.isNone) = true := List.any_eq_true.mpr ⟨lawNum w, List.mem_map_of_mem hw1, by rw [g1]; rfl⟩
        rw [hn]
        have r0 : (if keysGood t false = true then if (!decide (keysOf t = sds (keysOf t))) = true ∨ true = true then none else some (forkSh t ((toldOf t).filterMap lawNum)) else none) = (none : Option Sh) := by
          split
          · rw [if_pos (.inr rfl)]
          · rfl
        rw [r0]
        cases hn2 : ((toldOf t).map wholeW).any (·.isNone) with
        | true => rw [if_pos rfl]
        | false =>
          rw [if_neg Bool.false_ne_true]
          obtain ⟨f1, f2⟩ := fm_all hn2
          unfold pick forkSh
          rw [sheet_zip (by rw [List.length_map, f1, hl])]
          rcases g2 with g2 | ⟨i, i0, g2⟩
          · have : ((toldOf t).map wholeW).any (·.isNone) = true := List.any_eq_true.mpr ⟨wholeW w, List.mem_map_of_mem hw1, by rw [g2]; rfl⟩
            rw [hn2] at this
            cases this
          · have hr : (((toldOf t).filterMap wholeW).map Tl.n).all tlOk = false := by
              rw [List.all_eq_false]
              refine ⟨.n i, List.mem_map_of_mem (List.mem_filterMap.mpr ⟨w, hw1, g2⟩), ?_⟩
              show ¬ inR i = true
              unfold inR
              rw [Bool.and_eq_true, decide_eq_true_eq]
              omega
            rw [hr, Bool.and_false, Bool.and_false, if_neg Bool.false_ne_true]
    · rw [if_neg hf, if_neg hf]
      unfold pick leafSh
      rw [sheet_zip (by rw [List.length_map, hl])]
      have e1 : ((toldOf t).map Tl.v).all tlOk = (toldOf t).all vOk := by rw [List.all_map]; rfl
      rw [e1]
      unfold keysGood
      by_cases hc : keysOf t = sds (keysOf t)
      · have hc2 := (sds_same _).mp hc
        rw [hc2, Bool.and_true]
        by_cases hg : ((decide (lowOf true ≤ (keysOf t).length) && decide ((keysOf t).length ≤ 4)) && (keysOf t).all kOk) = true
        · have hx : ¬ ((!decide (keysOf t = sds (keysOf t))) = true) := by simp [← hc]
          rw [if_pos hg, if_neg hx]
          rw [Bool.and_eq_true] at hg
          rw [hg.1, hg.2, Bool.true_and, Bool.true_and]
        · rw [if_neg hg, ← Bool.and_assoc]
          rw [Bool.not_eq_true] at hg
          rw [hg, Bool.false_and, if_neg Bool.false_ne_true]
      · have hc2 : chain (keysOf t) = false := by
          cases q : chain (keysOf t) with
          | false => rfl
          | true => exact absurd ((sds_same _).mpr q) hc
        rw [hc2, Bool.and_false, Bool.false_and, Bool.and_false, if_neg Bool.false_ne_true]
        split
        · rw [if_pos (by simp [hc])]
        · rfl
  · rw [if_neg hh, if_neg hh]
end W9
namespace W9
open PySem PySem.Spec PyProof.Rows L2
/-- a word of a page text -/
structure Wrd (w : List Nat) : Prop where
  s : ∀ c ∈ w, al c = true ∧ c ≠ 10
  l : w.length ≤ 1000
theorem Wrd.c {w : List Nat} (h : Wrd w) : ∀ c ∈ w, c < 1114112 := fun c hc => Nat.lt_trans (al_lt (h.s c hc).1) (by decide)
theorem Wrd.sg {w : List Nat} (h : Wrd w) {c : Nat} (hc : c ∈ w) : 32 ≤ c ∧ c ≤ 126 ∧ c ≠ 37 := by
  obtain ⟨h1, h2⟩ := h.s c hc
  have := al_iff.mp h1
  omega
theorem plain_wrd {ws : List (List Nat)} (h : ∀ w ∈ ws, Wrd w) : Plain ws := fun w hw => (h w hw).c
theorem sgl_lt (a b : Nat) : ([a] < [b]) ↔ a < b := by
  constructor
  · intro h
    cases h with
    | rel h => exact h
    | cons h => cases h
  · intro h
    exact List.Lex.rel h
theorem all_cong {α : Type} {p q : α → Bool} : ∀ {l : List α}, (∀ a ∈ l, p a = q a) → l.all p = l.all q
  | [], _ => rfl
  | x :: l, h => by rw [List.all_cons, List.all_cons, h x List.mem_cons_self, all_cong fun a ha => h a (List.mem_cons_of_mem _ ha)]
theorem le_sgl (f c : Nat) : (!decide ([c] < [f])) = decide (f ≤ c) := by
  by_cases q : f ≤ c
  · rw [decide_eq_true q, decide_eq_false (by rw [sgl_lt]; omega)]; rfl
  · rw [decide_eq_false q, decide_eq_true (by rw [sgl_lt]; omega)]; rfl
theorem signs_all {w : List Nat} (h : Wrd w) (f : Nat) : (w.all fun c => (!decide ([c] < [f]) && (decide (c ∈ lowS) || decide (c ∈ highS)))) = w.all fun c => decide (f ≤ c) := all_cong fun c hc => by
  obtain ⟨h1, h2, h3⟩ := h.sg hc
  have e : (decide (c ∈ lowS) || decide (c ∈ highS)) = true := by
    rw [Bool.or_eq_true, decide_eq_true_eq, decide_eq_true_eq, low_mem, high_mem]
    omega
  rw [e, Bool.and_true, le_sgl]
/-- from f to the last sign, as the law asks -/
theorem signs_law {w : List Nat} (h : Wrd w) (f : Nat) : (w.all fun c => (!decide ([c] < [f]) && !decide ([126] < [c]))) = w.all fun c => decide (f ≤ c) := all_cong fun c hc => by
  obtain ⟨h1, h2, h3⟩ := h.sg hc
  rw [le_sgl, le_sgl, decide_eq_true (by omega : c ≤ 126), Bool.and_true]
theorem figOf_le {w : List Nat} : (figOf w).length ≤ w.length := by
  unfold figOf
  split
  · rw [List.length_drop]; omega
  · exact Nat.le_refl _
theorem figOf_wrd {w : List Nat} (h : Wrd w) : Wrd (figOf w) := ⟨fun c hc => by
  unfold figOf at hc
  split at hc
  · exact h.s c (List.mem_of_mem_drop hc)
  · exact h.s c hc, Nat.le_trans figOf_le h.l⟩
theorem fig_ee {w : List Nat} : SD.py (if decide (cut w none (some 1) = [45]) = true then PyData.str ⟨(cut w (some 1) none).toArray⟩ else PyData.str ⟨w.toArray⟩) = S (figOf w) := by
  rw [show (some (1 : Int)) = some ((1 : Nat) : Int) from rfl, cut_0n, cut_n0]
  unfold figOf
  by_cases h : w.take 1 = [45]
  · rw [if_pos (decide_eq_true h), if_pos h]
  · rw [if_neg (by simpa using h), if_neg h]
theorem ival_small {w : List Nat} (h : figB (figOf w) = true) (hl : (figOf w).length ≤ 12) : (ivalW w).natAbs < 2 ^ 60 := by
  have h1 := val_lt h
  have h2 : 10 ^ (figOf w).length ≤ 10 ^ 12 := Nat.pow_le_pow_right (by decide) hl
  have h3 : (10 : Nat) ^ 12 < 2 ^ 60 := by decide
  unfold ivalW
  unfold figOf at h1 h2
  split
  · rename_i q
    rw [if_pos q] at h1 h2
    omega
  · rename_i q
    rw [if_neg q] at h1 h2
    omega
theorem txts_sd (ks : List (List Nat)) : (txts ks).map SD.py = ks.map fun w => S w := by rw [List.map_map]; rfl
theorem zip_txts (ks js : List (List Nat)) : (List.zip (txts ks) (txts js)).map (fun (q : PyData × PyData) => Tp [q.1, q.2]) = (List.zip ks js).map fun (q : List Nat × List Nat) => Tp [.str ⟨q.1.toArray⟩, .str ⟨q.2.toArray⟩] := by
  rw [List.zip_map, List.map_map]
  rfl
theorem cut_txts (ks : List (List Nat)) : cut (txts ks) (some 1) none = txts (ks.drop 1) := by
  rw [cut_map, show (some (1 : Int)) = some ((1 : Nat) : Int) from rfl, cut_n0]
section
variable {X : Cx} {ds : DE} {m : MS} {e : Expr} {pos : Pos}
theorem ca_anym (hc : X.calm = true) {α : Type} {l : List α} {p : α → Bool} : CaD X (.builtin "any") m [Ls (l.map fun a => PyData.bool (p a))] (B (l.any p)) := by
  have h := ca_any (X := X) (m := m) hc (ns := l.map p)
  rw [List.map_map, List.any_map] at h
  exact h
end
def TlFit (leaf : Bool) : Tl → Prop
  | .v w => leaf = true ∧ Wrd w
  | .n i => leaf = false ∧ i.natAbs < 2 ^ 60
  | .nw i => leaf = false ∧ i.natAbs < 2 ^ 60
structure ShFit (s : Sh) : Prop where
  k : ∀ q ∈ s.es, Wrd q.1 ∧ TlFit s.leaf q.2
  l : s.es.length ≤ 1000
theorem kd_leaf {b : Bool} : decide (kdS b = nLeaf) = b := by cases b <;> decide
theorem kd_fork {b : Bool} : decide (kdS b = nFork) = !b := by cases b <;> decide
/-- the words of a sheet -/
def tlW (ps : List Int) : Tl → List Nat
  | .v w => w
  | .n i => intS i
  | .nw i => intS (ps.getD i.toNat 0)
def bodyS (es : List Ent) (ps : List Int) : List (List Nat) := (es.map fun q => [q.1, tlW ps q.2]).flatten
def wordsS (s : Sh) (ps : List Int) : List (List Nat) := (if s.leaf = true then [108] else [102]) :: bodyS s.es ps
def textS (s : Sh) (ps : List Int) : List Nat := joinL [10] (wordsS s ps)
theorem body_snoc (es : List Ent) (q : Ent) (ps : List Int) : bodyS (es ++ [q]) ps = bodyS es ps ++ [q.1, tlW ps q.2] := by
  unfold bodyS
  rw [List.map_append, List.flatten_append]
  rfl
theorem body_len (es : List Ent) (ps : List Int) : (bodyS es ps).length = 2 * es.length := by
  induction es with
  | nil => rfl
  | cons q es ih =>
    unfold bodyS at *
    rw [List.map_cons, List.flatten_cons, List.length_append, ih, List.length_cons]
    simp only [List.length_cons, List.length_nil]
    omega
theorem intS_len {i : Int} (h0 : 0 ≤ i) (h : i.natAbs < 2 ^ 60) : (intS i).length ≤ 20 := by
  have h2 : (2 : Nat) ^ 60 < 10 ^ 19 := by decide
  have := TL.numL_len (n := i.natAbs) (k := 19) (by decide) (by omega)
  have e : i = ((i.natAbs : Nat) : Int) := by omega
  rw [e, intS_num]
  omega
theorem intS_wrd {i : Int} (h0 : 0 ≤ i) (h : i.natAbs < 2 ^ 60) : Wrd (intS i) := by
  refine ⟨fun c hc => ?_, by have := intS_len h0 h; omega⟩
  have e : i = ((i.natAbs : Nat) : Int) := by omega
  rw [e, intS_num] at hc
  have := TL.numL_digits _ c hc
  exact ⟨al_iff.mpr (by omega), by omega⟩
end W9
namespace W9
open PySem PySem.Spec PyProof.Rows L2
theorem ent_sd (es : List Ent) : (es.map entP).map SD.py = es.map fun q => SD.py (entP q) := by rw [List.map_map]; rfl
theorem ent_fst (es : List Ent) : (es.map fun (q : Ent) => PyData.str ⟨q.1.toArray⟩) = txts (es.map (·.1)) := by unfold txts; rw [List.map_map]; rfl
theorem sheet_len {s : Sh} (h : (decide ((lowOf s.leaf : Int) ≤ ((s.es.map entP).length : Int)) && decide (((s.es.map entP).length : Int) ≤ 4)) = false) : isSheetB s = false := by
  rw [List.length_map] at h
  unfold isSheetB
  have : (decide (lowOf s.leaf ≤ s.es.length) && decide (s.es.length ≤ 4)) = false := by
    rw [Bool.and_eq_false_iff, decide_eq_false_iff_not, decide_eq_false_iff_not] at h ⊢
    omega
  rw [this, Bool.false_and]
theorem sheet_asc {s : Sh} (h : ((s.es.map (·.1)).all kOk && chain (s.es.map (·.1))) = false) : isSheetB s = false := by
  unfold isSheetB
  rw [all_fst (p := kOk), h, Bool.false_and, Bool.and_false]
theorem sheet_rest {s : Sh} (h : (decide ((lowOf s.leaf : Int) ≤ ((s.es.map entP).length : Int)) && decide (((s.es.map entP).length : Int) ≤ 4)) = true) (h2 : ((s.es.map (·.1)).all kOk && chain (s.es.map (·.1))) = true) : isSheetB s = s.es.all fun q => tlOk q.2 := by
  rw [List.length_map] at h
  unfold isSheetB
  have : (decide (lowOf s.leaf ≤ s.es.length) && decide (s.es.length ≤ 4)) = true := by
    rw [Bool.and_eq_true, decide_eq_true_eq, decide_eq_true_eq] at h ⊢
    omega
  rw [this, all_fst (p := kOk), h2, Bool.true_and, Bool.true_and]
/-! ### the rows of a text, what is known of them -/
theorem lns_wrd {t : List Nat} (h : OkT t) (hl : t.length ≤ 113) : ∀ w ∈ lns t, Wrd w := fun w hw => ⟨fun c hc => lnsA_mem (P := fun c => al c = true ∧ c ≠ 10) t [] (fun c hc hn => ⟨h c hc, hn⟩) (fun _ z => nomatch z) w hw c hc, by
  have := (lnsA_len t []).2 w hw
  simp only [List.length_nil] at this
  omega⟩
theorem lns_few {t : List Nat} (hl : t.length ≤ 113) : (lns t).length ≤ 114 := by
  have := (lnsA_len t []).1
  show (lnsA [] t).length ≤ 114
  omega
theorem alt_mem {α : Type} {x : α} : ∀ {l : List α}, x ∈ alt l → x ∈ l
  | [], h => h
  | [_], h => h
  | a :: b :: r, h => by
    simp only [alt] at h
    rcases List.mem_cons.mp h with e | e
    · rw [e]; exact List.mem_cons_self
    · exact List.mem_cons_of_mem _ (List.mem_cons_of_mem _ (alt_mem e))
theorem keys_wrd {t : List Nat} (h : OkT t) (hl : t.length ≤ 113) : ∀ w ∈ keysOf t, Wrd w := fun w hw => lns_wrd h hl w (List.mem_of_mem_drop (alt_mem hw))
theorem told_wrd {t : List Nat} (h : OkT t) (hl : t.length ≤ 113) : ∀ w ∈ toldOf t, Wrd w := fun w hw => lns_wrd h hl w (List.mem_of_mem_drop (alt_mem hw))
theorem keys_few {t : List Nat} (hl : t.length ≤ 113) : (keysOf t).length ≤ 114 := by
  have := lns_few hl
  have h2 := alt_le ((lns t).drop 1)
  rw [List.length_drop] at h2
  unfold keysOf
  omega
theorem told_few {t : List Nat} (hl : t.length ≤ 113) : (toldOf t).length ≤ 114 := by
  have := lns_few hl
  have h2 := alt_le ((lns t).drop 2)
  rw [List.length_drop] at h2
  unfold toldOf
  omega
theorem lns_head (t : List Nat) : (lns t)[0]? = some (head0 t) := by
  unfold head0
  cases h : lns t with
  | nil => exact absurd h (lnsA_ne t [])
  | cons x r => rfl
theorem txts_get {ks : List (List Nat)} {i : Nat} {w : List Nat} (h : ks[i]? = some w) : (txts ks)[i]? = some (.str ⟨w.toArray⟩) := by rw [List.getElem?_map, h]; rfl
theorem alt_txts (ks : List (List Nat)) (b : Nat) : alt ((txts ks).drop b) = txts (alt (ks.drop b)) := by rw [← List.map_drop, alt_map]
theorem zipP_leaf (ks ts : List (List Nat)) : zipP (txts ks) (txts ts) = (List.zip ks (ts.map Tl.v)).map entP := by
  unfold zipP
  rw [List.zip_map, List.map_map, List.zip_map_right, List.map_map]
  rfl
theorem zipP_fork (ks : List (List Nat)) (ns : List Int) : zipP (txts ks) (ns.map PyData.int) = (List.zip ks (ns.map Tl.n)).map entP := by
  unfold zipP
  rw [List.zip_map, List.map_map, List.zip_map_right, List.map_map]
  rfl
theorem oi_some {ts : List (List Nat)} {f : List Nat → Option Int} : (ts.map f).any (·.isNone) = false → (ts.map fun w => oiP (f w)) = (ts.filterMap f).map PyData.int := by
  induction ts with
  | nil => intro _; rfl
  | cons w ts ih =>
    intro h
    rw [List.map_cons, List.any_cons, Bool.or_eq_false_iff] at h
    cases e : f w with
    | none => rw [e] at h; simp at h
    | some i =>
      rw [List.filterMap_cons_some e, List.map_cons, List.map_cons, ih h.2, e]
      rfl
theorem oi_map (ts : List (List Nat)) (f : List Nat → Option Int) : (ts.map fun w => oiP (f w)) = (ts.map f).map oiP := by rw [List.map_map]; rfl
section
variable {X : Cx}
theorem cd_noneInF (hr : Rm 0 X.A) {α : Type} {l : List α} {f : α → Option Int} : CmpD X .In N0 (Ls (l.map fun a => oiP (f a))) ((l.map f).any (·.isNone)) := by
  have h := cd_noneIn (X := X) hr (l := l.map f)
  rw [List.map_map] at h
  exact h
theorem dep_none : ∀ ws : List (List Nat), ((txts ws).any fun z => PyData.eqv z .none) = false
  | [] => rfl
  | w :: ws => by
    show (PyData.eqv (.str ⟨w.toArray⟩) .none || ((txts ws).any fun z => PyData.eqv z .none)) = false
    rw [dep_none ws]
    rfl
theorem cd_noneTx (hr : Rm 0 X.A) {ws : List (List Nat)} (h : Plain ws) : CmpD X .In N0 (Ls (txts ws)) false := ⟨_, op_inD (by have := hr.r.un; omega), fun m G H v u w r1 r2 Q q => by
  cases r1 with
  | py r1 =>
    cases r2 with
    | py r2 =>
      refine ⟨_, _, dp_mono w.w r1, dp_mono w.w r2, rfl, sh_lst h, ?_⟩
      rw [dep_none]
      exact q _ _ _ (.refl w) (.py (.bl _))⟩
end
theorem leaf_fit {t : List Nat} (h : OkT t) (hl : t.length ≤ 113) : ShFit (leafSh t) := by
  refine ⟨fun q hq => ?_, ?_⟩
  · obtain ⟨h1, h2⟩ := List.of_mem_zip (show (q.1, q.2) ∈ List.zip (keysOf t) ((toldOf t).map Tl.v) from hq)
    obtain ⟨w, hw, e⟩ := List.mem_map.mp h2
    refine ⟨keys_wrd h hl _ h1, ?_⟩
    rw [← e]
    exact ⟨rfl, told_wrd h hl w hw⟩
  · have := keys_few (t := t) hl
    show (List.zip (keysOf t) ((toldOf t).map Tl.v)).length ≤ 1000
    rw [List.length_zip]
    omega
theorem long_small {w : List Nat} {i : Int} (h : wholeW w = some i) : i.natAbs < 2 ^ 60 := by
  unfold wholeW at h
  split at h
  · rename_i h12
    unfold longW at h
    split at h
    · rename_i hc
      split at h
      · cases h
        exact ival_small hc.2 h12
      · cases h
    · cases h
  · cases h
theorem fork_fit {t : List Nat} (h : OkT t) (hl : t.length ≤ 113) : ShFit (forkSh t ((toldOf t).filterMap wholeW)) := by
  refine ⟨fun q hq => ?_, ?_⟩
  · obtain ⟨h1, h2⟩ := List.of_mem_zip (show (q.1, q.2) ∈ List.zip (keysOf t) (((toldOf t).filterMap wholeW).map Tl.n) from hq)
    obtain ⟨i, hi, e⟩ := List.mem_map.mp h2
    obtain ⟨w, _, hw⟩ := List.mem_filterMap.mp hi
    refine ⟨keys_wrd h hl _ h1, ?_⟩
    rw [← e]
    exact ⟨rfl, long_small hw⟩
  · have := keys_few (t := t) hl
    show (List.zip (keysOf t) _).length ≤ 1000
    rw [List.length_zip]
    omega
end W9
namespace W9
open PySem PySem.Spec PyProof.Rows L2
theorem dpa_rev {K : PySem.W.Frag} {G : Hp} : ∀ {vs : List V} {l : List PyData}, DpAll K G vs l → DpAll K G vs.reverse l.reverse
  | _, _, .nil => .nil
  | _, _, .cons h r => by rw [List.reverse_cons, List.reverse_cons]; exact dpa_append (dpa_rev r) (.cons h .nil)
section
variable {X : Cx} {ds : DE} {m : MS} {e a b c elt iter : Expr} {es : List Expr} {pos : Pos}
theorem ws_setLctf {α : Type} {j1 j2 i : Nat} {x1 x2 y : Str} {p1 p2 tpos py spos : Pos} {kk : Nat} {scope : Scope} {E : ED} (l : List α) (g1 g2 : α → PyData) (p : α → Bool) (h : α → PyData) (own : List (Str × Nat)) (ho : own.map (·.2) = [j1, j2]) (hN : X.N.Nodup)
    (hi : EI X (.Tuple [.Name x1 p1, .Name x2 p2] kk tpos) iter ds (l.map fun a => Tp [g1 a, g2 a])) (hl : l.length ≤ 1000000)
    (test : ∀ a ∈ l, AllBlk X scope fun Y => ET Y c ((((ds.set j2 none).set j1 none).set j1 (some (.py (g1 a)))).set j2 (some (.py (g2 a)))) (p a))
    (turn : ∀ a ∈ l, p a = true → AllBlk X scope fun Y => EE Y elt ((((ds.set j2 none).set j1 none).set j1 (some (.py (g1 a)))).set j2 (some (.py (g2 a)))) (.py (h a)))
    (wg : ∀ s H C cl fp d1 d2 (ds : DE) m (Q : DE → MS → Prop), Q ((ds.set j1 (some (.py d1))).set j2 (some (.py d2))) m → WG (Blk X scope s H C cl fp) (.Tuple [.Name x1 p1, .Name x2 p2] kk tpos) [j1, j2] (Tp [d1, d2]) ds m Q)
    (ok : BlkOk X.N X.env.scope scope own) (q : E.nx (ds.set i (some (Ls ((l.filter p).map h)))) m) (hsw : swapsWith (.ListComp elt [⟨.Tuple [.Name x1 p1, .Name x2 p2] kk tpos, iter, [c], 0⟩] scope pos) (some (.Name y py)) spos.line X.env = pure true := by rfl) (hix : X.N[i]? = some y := by rfl) (hyl : X.env.scope.names.lookup y = some .local := by rfl)
    (hc : X.calm = true := by rfl) (hs : ∀ x, foldedSetIterable iter X.env x = pure x := by intro _; rfl) : WS X (.Assign [.Name y py] (.ListComp elt [⟨.Tuple [.Name x1 p1, .Name x2 p2] kk tpos, iter, [c], 0⟩] scope pos) spos) ds m E :=
  ws_setLc own hN (hi.to ⟨by rw [List.length_map]; exact hl, fun i acc m' => acc = ((l.take i).filter p).map h ∧ m' = m, ⟨rfl, rfl⟩, fun i y acc m' hy _ ⟨e1, e2⟩ => by
    subst e1 e2
    rw [ho]
    obtain ⟨a, qa, rfl⟩ := map_get hy
    have hm := List.mem_of_getElem? qa
    refine fun s H C cl fp => wg _ _ _ _ _ _ _ _ _ _ fun s H C cl fp => wts_one ((test a hm s H C cl fp).to ?_)
    cases z : p a with
    | true =>
      rw [if_pos rfl]
      refine fun s H C cl fp => (turn a hm z s H C cl fp).to ⟨_, rfl, ?_, rfl⟩
      rw [List.take_add_one, qa, List.filter_append, List.map_append]
      show _ = _ ++ ([a].filter p).map h
      rw [List.filter_cons_of_pos z]
      rfl
    | false =>
      rw [if_neg Bool.false_ne_true]
      refine ⟨?_, rfl⟩
      rw [List.take_add_one, qa, List.filter_append, List.map_append]
      show _ = _ ++ ([a].filter p).map h
      rw [List.filter_cons_of_neg (by rw [z]; exact Bool.false_ne_true)]
      simp, fun acc m' _ ⟨e1, e2⟩ => by
    rw [List.length_map, List.take_length] at e1
    subst e1 e2
    exact q⟩) ok hsw hix hyl hc hs
/-- l[::-1] of a list -/
theorem ee_revL {l : List PyData} {k : Nat} {p1 p2 p3 : Pos} (h : EE X e ds (Ls l)) : EE X (.Subscript e (.Slice none none (some (.UnaryOp .USub (.Constant (.int 1) k p1) p2)) p3) pos) ds (Ls l.reverse) := fun m σ G H E w Q q =>
  oE (pe_revL (pE e)) (h m σ G H E w _ fun v d m1 G1 H1 g1 r1 ⟨e1, e2⟩ => by
    subst e1 e2
    obtain ⟨a, vs, rfl, h1, h2⟩ := ds_lst r1
    refine ⟨a, vs, rfl, ex_l g1.wd.w h1, fun p hp => ?_⟩
    have g2 := Gr.new (o := .lst vs.reverse) g1.wd hp
    exact q _ _ _ _ _ (g1.trans g2) (.py (.lst (SqL.of upd_same) (dpa_rev (dpa_mono g2.g h2)))) ⟨rfl, rfl⟩)
end
/-! ### the words of a sheet, how long -/
def TlIn (ps : List Int) : Tl → Prop
  | .v _ => True
  | .n i => 0 ≤ i ∧ i.natAbs < 2 ^ 60
  | .nw i => 0 ≤ i ∧ i.toNat < ps.length
structure ShIn (s : Sh) (ps : List Int) : Prop where
  t : ∀ q ∈ s.es, TlIn ps q.2
  p : ∀ i ∈ ps, 0 ≤ i ∧ i.natAbs < 2 ^ 60
  l : s.es.length ≤ 4
theorem tl_wrd {leaf : Bool} {ps : List Int} {t : Tl} (h : TlFit leaf t) (h2 : TlIn ps t) (hp : ∀ i ∈ ps, 0 ≤ i ∧ i.natAbs < 2 ^ 60) : Wrd (tlW ps t) := by
  cases t with
  | v w => exact h.2
  | n i => exact intS_wrd h2.1 h2.2
  | nw i =>
    have hg : ps.getD i.toNat 0 ∈ ps := by
      rw [List.getD_eq_getElem?_getD, List.getElem?_eq_getElem h2.2]
      exact List.getElem_mem _
    have := hp _ hg
    exact intS_wrd this.1 this.2
theorem body_wrd {s : Sh} {ps : List Int} (h : ShFit s) (h2 : ShIn s ps) : ∀ w ∈ bodyS s.es ps, Wrd w := fun w hw => by
  unfold bodyS at hw
  obtain ⟨l, h3, h4⟩ := List.mem_flatten.mp hw
  obtain ⟨q, hq, rfl⟩ := List.mem_map.mp h3
  obtain ⟨k1, k2⟩ := h.k q hq
  rcases List.mem_cons.mp h4 with e | e
  · rw [e]; exact k1
  · rw [List.mem_singleton.mp e]; exact tl_wrd k2 (h2.t q hq) h2.p
theorem head_wrd (b : Bool) : Wrd (if b = true then [108] else [102]) := by
  cases b
  · exact ⟨by decide, by decide⟩
  · exact ⟨by decide, by decide⟩
theorem words_wrd {s : Sh} {ps : List Int} (h : ShFit s) (h2 : ShIn s ps) : ∀ w ∈ wordsS s ps, Wrd w := fun w hw => by
  rcases List.mem_cons.mp hw with e | e
  · rw [e]; exact head_wrd _
  · exact body_wrd h h2 w e
theorem sum_le {k : Nat} : ∀ {l : List (List Nat)}, (∀ w ∈ l, w.length ≤ k) → (l.map List.length).sum ≤ l.length * k
  | [], _ => Nat.zero_le _
  | w :: l, h => by
    have h1 := h w List.mem_cons_self
    have h2 := sum_le fun v hv => h v (List.mem_cons_of_mem _ hv)
    rw [List.map_cons, List.sum_cons, List.length_cons, Nat.succ_mul]
    omega
theorem join_fits {l : List (List Nat)} (h : ∀ w ∈ l, Wrd w) (hl : l.length ≤ 900) : (l.map List.length).sum + l.length * ([10] : List Nat).length ≤ 1000000 := by
  have h1 := sum_le fun w hw => (h w hw).l
  simp only [List.length_cons, List.length_nil]
  omega
theorem join_ok : ∀ {l : List (List Nat)}, (∀ w ∈ l, Wrd w) → OkT (joinL [10] l)
  | [], _ => fun c hc => by simp [joinL] at hc
  | [w], h => fun c hc => by
    have : c ∈ w := by simpa [joinL] using hc
    exact ((h w List.mem_cons_self).s c this).1
  | w :: v :: l, h => fun c hc => by
    have hc : c ∈ w ++ [10] ++ joinL [10] (v :: l) := by simpa [joinL] using hc
    rcases List.mem_append.mp hc with q | q
    · rcases List.mem_append.mp q with q | q
      · exact ((h w List.mem_cons_self).s c q).1
      · rw [List.mem_singleton.mp q]; rfl
    · exact join_ok (fun u hu => h u (List.mem_cons_of_mem _ hu)) c q
theorem join_len {k : Nat} : ∀ {l : List (List Nat)}, (∀ w ∈ l, w.length ≤ k) → (joinL [10] l).length + 1 ≤ l.length * (k + 1) + 1
  | [], _ => by simp [joinL]
  | [w], h => by
    have := h w List.mem_cons_self
    simp [joinL]
    omega
  | w :: v :: l, h => by
    have h1 := h w List.mem_cons_self
    have h2 := join_len (l := v :: l) fun u hu => h u (List.mem_cons_of_mem _ hu)
    have e : joinL [10] (w :: v :: l) = w ++ [10] ++ joinL [10] (v :: l) := rfl
    have e2 : (w :: v :: l).length * (k + 1) = (v :: l).length * (k + 1) + (k + 1) := by rw [List.length_cons, Nat.succ_mul]
    rw [e, e2, List.length_append, List.length_append]
    simp only [List.length_cons, List.length_nil] at h1 h2 ⊢
    omega
end W9
namespace W9
open PySem PySem.Spec PyProof.Rows L2
section
variable {X : Cx} {ds : DE} {m : MS} {e a b c : Expr} {es : List Expr} {pos p p2 q apos cpos : Pos}
/-- sorted(set(texts)), the texts with what is owned -/
theorem we_sortset {P : SD → MS → Prop} (h : WE X e ds m fun d m1 => ∃ ws : List (List Nat), d = Ls (txts ws) ∧ ws.length < 64 ∧ P (Ls (txts (sds ws))) m1) (hm : X.mg "sorted" = none) (hm2 : X.mg "set" = none) (hc : X.calm = true := by rfl) (hg : Gl X "sorted" := by rfl) (hg2 : Gl X "set" := by rfl)
    (hs : starEach [.Call (.Name "set" p2) [e] [] q] X.env = (false, eval (.Call (.Name "set" p2) [e] [] q) X.env) :: starEach [] X.env := by rfl) (hpl : (backTo pos (starEach [] X.env)).any (·.1) = false := by rfl)
    (hs2 : starEach [e] X.env = (false, eval e X.env) :: starEach [] X.env := by rfl) (hpl2 : (backTo q (starEach [] X.env)).any (·.1) = false := by rfl) :
    WE X (.Call (.Name "sorted" p) [.Call (.Name "set" p2) [e] [] q] [] pos) ds m P := fun σ G H E w Q k =>
  oE (pe_callB (cr_sortT2 hc) hg hm (by decide +kernel) (pa_cons (pe_callTy (cr_setT hc) hg2 hm2 (by decide +kernel) (pA [e]) (by decide) (by decide) hs2 hpl2) pa_nil hs) (by decide) (by decide) hs hpl) ((wa_cons (P := fun xs m1 => ∃ ws : List (List Nat), xs = [Ls (txts ws)] ∧ ws.length < 64 ∧ P (Ls (txts (sds ws))) m1) (h.mono fun d m1 ⟨ws, e1, e2, e3⟩ => wa_nil ⟨ws, by rw [e1], e2, e3⟩) hs2) σ G H E w _ fun vs xs m1 G1 H1 g1 r1 ⟨ws, e1, hl, pp⟩ => by
    subst e1
    cases r1 with
    | cons r1 r2 =>
      cases r2
      obtain ⟨f, us, rfl, h1, h2⟩ := ds_lst r1
      have e := dpa_txts h2
      subst e
      have e : (ws.map fun l => V.str ⟨l.toArray⟩) = (ws.map fun w => (⟨w.toArray⟩ : Str)).map V.str := by rw [List.map_map]; rfl
      refine ⟨f, ws.map fun w => (⟨w.toArray⟩ : Str), rfl, by rw [← e]; exact ex_l g1.wd.w h1, by rw [List.length_map]; omega, fun l p hmem nd hlen hp => ?_⟩
      rw [List.length_map] at hlen
      have g2 := Gr.new (o := SetTx X.prog X.w p l) g1.wd hp
      refine ⟨p, l, rfl, upd_same, by omega, fun ss p2 s1 s2 s3 hp2 => ?_⟩
      have es := sort_is s1 s2 s3 nd hmem
      subst es
      have g3 := Gr.new (o := .lst ((sds ws).map fun l => V.str ⟨l.toArray⟩)) g2.wd hp2
      rw [List.map_map]
      exact k _ _ _ _ _ ((g1.trans g2).trans g3) (.py (.lst (SqL.of upd_same) (txts_dpa _))) pp)
/-- l[:n] of a list, the list and n with what is owned -/
theorem we_cutW {hi : Expr} {P : SD → MS → Prop} {p3 : Pos} (h : WE X e ds m fun x m1 => ∃ l : List PyData, x = Ls l ∧ WE X hi ds m1 fun y m2 => ∃ n : Int, y = I n ∧ P (Ls (cut l none (some n))) m2) : WE X (.Subscript e (.Slice none (some hi) none p3) pos) ds m P := fun σ G H E w Q k => by
  have e0 : PE X (.Subscript e (.Slice none (some hi) none p3) pos) (tSl (fun v l u H Q => ∃ r, SlR X r ∧ r v l u H Q) (wE X e) tNoPart (tPart (wE X hi))) :=
    pe_slice (fun pins s σ H x v vl vu lo hi sl Q I rx hs pl pu ⟨r, hr, q⟩ => hr pins s σ H x v vl vu lo hi sl Q I rx hs pl pu q) (pE e) po_none (po_some (pE hi))
  refine oE e0 (h σ G H E w _ fun v d m1 G1 H1 g1 r1 ⟨l, e1, h2⟩ => ?_)
  subst e1
  refine h2 σ G1 H1 (E.mono g1.g) g1.wd _ fun v2 d2 m2 G2 H2 g2 r2 ⟨n, e2, pp⟩ => ?_
  subst e2
  obtain ⟨r, hr, hz⟩ := sl_L (X := X) (m := m2) (l := l) (lo := none) (hi := some n)
  exact ⟨n, ds_int r2, r, hr, hz G2 H2 v g2.wd (ds_mono g2.g r1) Q fun w' G4 H4 g4 r4 => k w' _ _ G4 H4 ((g1.trans g2).trans g4) r4 pp⟩
end
def wrdB (w : List Nat) : Bool := (w.all fun c => al c && c != 10) && decide (w.length ≤ 1000)
theorem wrd_of {w : List Nat} (h : wrdB w = true) : Wrd w := by
  unfold wrdB at h
  rw [Bool.and_eq_true, List.all_eq_true, decide_eq_true_eq] at h
  refine ⟨fun c hc => ?_, h.2⟩
  have := h.1 c hc
  rw [Bool.and_eq_true] at this
  exact ⟨this.1, by simpa using this.2⟩
theorem mem_txts {ls : List (List Nat)} {d : PyData} (h : d ∈ txts ls) : ∃ w ∈ ls, d = .str ⟨w.toArray⟩ := by
  obtain ⟨w, h1, h2⟩ := List.mem_map.mp h
  exact ⟨w, h1, h2.symm⟩
/-! ### repr of a sheet -/
theorem ent_dp (q : Ent) : (entP q).depth ≤ 2 := by
  obtain ⟨w, t⟩ := q
  cases t <;> simp [entP, tlP, PyData.depth, PyData.depthAll]
theorem ents_dp : ∀ es : List Ent, PyData.depthAll (es.map entP) ≤ 2
  | [] => by simp [PyData.depthAll]
  | q :: es => by
    rw [List.map_cons, PyData.depthAll]
    have h1 := ent_dp q
    have h2 := ents_dp es
    omega
theorem ents_nd : ∀ es : List Ent, PyData.hasDictAll (es.map entP) = false
  | [] => rfl
  | q :: es => by
    rw [List.map_cons, PyData.hasDictAll, ents_nd es]
    obtain ⟨w, t⟩ := q
    cases t <;> rfl
theorem inR_lt {i : Int} (h : inR i = true) : i.natAbs < 10 ^ 12 := by
  unfold inR at h
  rw [Bool.and_eq_true, decide_eq_true_eq, decide_eq_true_eq] at h
  omega
theorem ents_sh : ∀ es : List Ent, (es.all fun q => tlOk q.2) = true → PyData.showableAll (es.map entP) = true
  | [], _ => rfl
  | q :: es, h => by
    rw [List.all_cons, Bool.and_eq_true] at h
    rw [List.map_cons, PyData.showableAll, ents_sh es h.2, Bool.and_true]
    obtain ⟨w, t⟩ := q
    cases t with
    | v u => simp [entP, tlP, PyData.showable, PyData.showableAll]
    | n i =>
      have := inR_lt (show inR i = true from h.1)
      simp only [entP, tlP, PyData.showable, PyData.showableAll, Bool.true_and, Bool.and_true]
      exact decide_eq_true (log_small (by omega))
    | nw i =>
      have := inR_lt (show inR i = true from h.1)
      simp only [entP, tlP, PyData.showable, PyData.showableAll, Bool.true_and, Bool.and_true]
      exact decide_eq_true (log_small (by omega))
theorem lv_str {w : List Nat} (h : Wrd w) : PyData.leavesShort 13 (.str ⟨w.toArray⟩) = true := by
  have := h.c
  simp only [PyData.leavesShort, List.all_eq_true, decide_eq_true_eq]
  exact fun c hc => Nat.lt_trans (h.c c hc) (by decide)
theorem ents_lv {leaf : Bool} : ∀ es : List Ent, (es.all fun q => tlOk q.2) = true → (∀ q ∈ es, Wrd q.1 ∧ TlFit leaf q.2) → PyData.leavesShortAll 13 (es.map entP) = true
  | [], _, _ => rfl
  | q :: es, h, hf => by
    rw [List.all_cons, Bool.and_eq_true] at h
    rw [List.map_cons, PyData.leavesShortAll, ents_lv es h.2 fun q hq => hf q (List.mem_cons_of_mem _ hq), Bool.and_true]
    obtain ⟨h1, h2⟩ := hf q List.mem_cons_self
    obtain ⟨w, t⟩ := q
    have lw := lv_str h1
    cases t with
    | v u =>
      have lu := lv_str h2.2
      simp only [entP, tlP, PyData.leavesShort, PyData.leavesShortAll, Bool.and_true] at lw lu ⊢
      rw [lw, lu]
      rfl
    | n i =>
      have := inR_lt (show inR i = true from h.1)
      have li : PyData.leavesShort 13 (.int i) = true := decide_eq_true (PyData.shown_int_le this)
      simp only [entP, tlP, PyData.leavesShort, PyData.leavesShortAll, Bool.and_true] at lw li ⊢
      rw [lw, li]
      rfl
    | nw i =>
      have := inR_lt (show inR i = true from h.1)
      have li : PyData.leavesShort 13 (.int i) = true := decide_eq_true (PyData.shown_int_le this)
      have ln := lv_str (w := nNew) (wrd_of (by decide))
      simp only [entP, tlP, PyData.leavesShort, PyData.leavesShortAll, Bool.and_true] at lw li ln ⊢
      rw [lw, li, ln]
      rfl
theorem ents_bk {leaf : Bool} : ∀ es : List Ent, (∀ q ∈ es, Wrd q.1 ∧ TlFit leaf q.2) → PyData.bulkAll (es.map entP) ≤ es.length * 3000
  | [], _ => by simp [PyData.bulkAll]
  | q :: es, hf => by
    have ih := ents_bk es fun q hq => hf q (List.mem_cons_of_mem _ hq)
    obtain ⟨h1, h2⟩ := hf q List.mem_cons_self
    rw [List.map_cons, PyData.bulkAll, List.length_cons, Nat.succ_mul]
    obtain ⟨w, t⟩ := q
    have hw := h1.l
    have : (entP (w, t)).bulk + 1 ≤ 3000 := by
      cases t with
      | v u =>
        have hu := h2.2.l
        simp only [entP, tlP, PyData.bulk, PyData.bulkAll, List.size_toArray]
        dsimp only at hw
        omega
      | n i =>
        simp only [entP, tlP, PyData.bulk, PyData.bulkAll, List.size_toArray]
        dsimp only at hw
        omega
      | nw i =>
        simp only [entP, tlP, PyData.bulk, PyData.bulkAll, List.size_toArray, List.length_cons, List.length_nil]
        dsimp only at hw
        omega
    omega
theorem rep_sh {s : Sh} (h : isSheetB s = true) (hf : ShFit s) : Rep (shP s) := by
  unfold isSheetB at h
  have h1 := (Bool.and_eq_true_iff.mp h).1
  have h4 := (Bool.and_eq_true_iff.mp (Bool.and_eq_true_iff.mp h).2).2
  have hl := of_decide_eq_true (Bool.and_eq_true_iff.mp h1).2
  have h5 := ents_bk s.es hf.k
  have h6 := ents_dp s.es
  refine ⟨?_, ?_, ?_, ?_, ?_⟩
  · simp only [shP, PyData.depth, PyData.depthAll]
    omega
  · simp only [shP, PyData.showable, PyData.showableAll, ents_sh _ h4]
    rfl
  · simp only [shP, PyData.hasDict, PyData.hasDictAll, ents_nd]
    rfl
  · have lk : PyData.leavesShort 13 (.str ⟨(kdS s.leaf).toArray⟩) = true := by cases s.leaf <;> exact lv_str (wrd_of (by decide))
    simp only [shP, PyData.leavesShort, PyData.leavesShortAll, Bool.and_true] at lk ⊢
    rw [lk, ents_lv _ h4 hf.k]
    rfl
  · have lk : (kdS s.leaf).length = 4 := by cases s.leaf <;> rfl
    simp only [shP, PyData.bulk, PyData.bulkAll, List.size_toArray, lk]
    have : s.es.length * 3000 ≤ 4 * 3000 := Nat.mul_le_mul_right _ hl
    omega
theorem rep_none : Rep .none := ⟨by decide, rfl, rfl, rfl, by decide⟩
end W9
namespace W9
open PySem PySem.Spec PyProof.Rows L2
abbrev sigK : List Nat := [33, 34, 35, 36, 38, 39, 40, 41, 42, 43, 44, 45, 46, 47, 48, 49, 50, 51, 52, 53, 54, 55, 56, 57, 58, 59, 60, 61, 62, 63, 64, 91, 92, 93, 94, 95, 96, 123, 124, 125, 126]
abbrev sigV : List Nat := [32, 33, 34, 35, 36, 38, 39, 40, 41, 42, 43, 44, 45, 46, 47, 48, 49, 50, 51, 52, 53, 54, 55, 56, 57, 58, 59, 60, 61, 62, 63, 64, 91, 92, 93, 94, 95, 96, 123, 124, 125, 126]
abbrev sigL : List Nat := [65, 66, 67, 68, 69, 70, 71, 72, 73, 74, 75, 76, 77, 78, 79, 80, 81, 82, 83, 84, 85, 86, 87, 88, 89, 90, 97, 98, 99, 100, 101, 102, 103, 104, 105, 106, 107, 108, 109, 110, 111, 112, 113, 114, 115, 116, 117, 118, 119, 120, 121, 122]
abbrev keyC : List (List Nat) := [[33], [126], [108], [102], [48], [114, 111, 111, 116], [110, 48, 48, 48, 49], [122, 122, 122, 122, 122, 122, 122, 122, 122, 122, 122, 122, 122]]
abbrev valC : List (List Nat) := [[111, 110, 101], [32], [54], [45, 49], [116, 119, 111, 32, 119, 111, 114, 100, 115], [108], [126, 126, 126, 126, 126, 126, 126, 126, 126, 126, 126, 126, 126], [102, 32, 50, 32, 50]]
abbrev morC : List (List Nat) := [[108], [102], [97], [], [55], [48, 48, 55], [45, 49], [32], [122, 32, 122], [49, 46, 53], [122, 122, 122, 122, 122, 122, 122, 122, 122, 122, 122, 122, 122, 122]]
/-- signs that may stand in a word, from f on -/
def sigB (f : Nat) (l : List Nat) : Bool := l.all fun c => al c && c != 10 && decide (f ≤ c)
theorem sig_k : sigB 33 (sigK ++ sigL) = true := by decide
theorem sig_v : sigB 32 (sigV ++ sigL) = true := by decide
theorem sig_a : sigB 33 [97, 98, 99, 100, 107, 122] = true := by decide
theorem sig_of {f : Nat} {l : List Nat} (h : sigB f l = true) {c : Nat} (hc : c ∈ l) : (al c = true ∧ c ≠ 10) ∧ f ≤ c := by
  have := List.all_eq_true.mp h c hc
  rw [Bool.and_eq_true, Bool.and_eq_true, decide_eq_true_eq] at this
  exact ⟨⟨this.1.1, by simpa using this.1.2⟩, this.2⟩
/-- a word of such signs -/
structure Sg (f : Nat) (w : List Nat) : Prop where
  s : ∀ c ∈ w, (al c = true ∧ c ≠ 10) ∧ f ≤ c
theorem Sg.wrd {f : Nat} {w : List Nat} (h : Sg f w) (hl : w.length ≤ 1000) : Wrd w := ⟨fun c hc => (h.s c hc).1, hl⟩
theorem Sg.ok {f : Nat} {w : List Nat} (h : Sg f w) (h1 : 1 ≤ w.length) (h2 : w.length ≤ 13) : sgB 1 13 f w = true := by
  unfold sgB
  rw [decide_eq_true h1, decide_eq_true h2, Bool.true_and, Bool.true_and, List.all_eq_true]
  exact fun c hc => decide_eq_true (h.s c hc).2
theorem Sg.app {f : Nat} {a b : List Nat} (h : Sg f a) (k : Sg f b) : Sg f (a ++ b) := ⟨fun c hc => (List.mem_append.mp hc).elim (h.s c) (k.s c)⟩
theorem Sg.one {f x : Nat} {l : List Nat} (h : sigB f l = true) (hx : x ∈ l) : Sg f [x] := ⟨fun c hc => by rw [List.mem_singleton.mp hc]; exact sig_of h hx⟩
theorem Sg.nil {f : Nat} : Sg f [] := ⟨fun _ h => nomatch h⟩
theorem Sg.num {i : Int} (h0 : 0 ≤ i) (h1 : i < 100) : Sg 33 (intS i) ∧ 1 ≤ (intS i).length ∧ (intS i).length ≤ 2 := by
  have e : i = ((i.toNat : Nat) : Int) := by omega
  rw [e, intS_num]
  refine ⟨⟨fun c hc => ?_⟩, ?_, TL.numL_len (by decide) (by omega)⟩
  · have := TL.numL_digits _ c hc
    exact ⟨⟨al_iff.mpr (by omega), by omega⟩, by omega⟩
  · have := TL.numL_ne i.toNat
    cases h : TL.numL i.toNat with
    | nil => exact absurd h this
    | cons x r => simp
theorem Sg.num1 {i : Int} (h0 : 0 ≤ i) (h1 : i < 10) : (intS i).length ≤ 1 := by
  have e : i = ((i.toNat : Nat) : Int) := by omega
  rw [e, intS_num]
  exact TL.numL_len (by decide) (by omega)
theorem Sg.rep {n : Nat} : Sg 33 (rep n [33]) := ⟨fun c hc => by
  unfold W9.rep at hc
  obtain ⟨l, q1, q2⟩ := List.mem_flatten.mp hc
  rw [List.eq_of_mem_replicate q1] at q2
  rw [List.mem_singleton.mp q2]
  decide⟩
theorem key_const {w : List Nat} (h : w ∈ keyC) : Wrd w ∧ kOk w = true := by
  have : ∀ w ∈ keyC, (wrdB w && kOk w) = true := by decide
  have := this w h
  rw [Bool.and_eq_true] at this
  exact ⟨wrd_of this.1, this.2⟩
theorem val_const {w : List Nat} (h : w ∈ valC) : Wrd w ∧ vOk w = true := by
  have : ∀ w ∈ valC, (wrdB w && vOk w) = true := by decide
  have := this w h
  rw [Bool.and_eq_true] at this
  exact ⟨wrd_of this.1, this.2⟩
theorem mor_const {w : List Nat} (h : w ∈ morC) : Wrd w ∧ w.length ≤ 14 := by
  have : ∀ w ∈ morC, (wrdB w && decide (w.length ≤ 14)) = true := by decide
  have := this w h
  rw [Bool.and_eq_true, decide_eq_true_eq] at this
  exact ⟨wrd_of this.1, this.2⟩
theorem kv_ok {w : List Nat} (h : kOk w = true) : vOk w = true := by
  unfold kOk vOk sgB at *
  rw [Bool.and_eq_true] at h ⊢
  refine ⟨h.1, ?_⟩
  rw [List.all_eq_true] at *
  exact fun c hc => decide_eq_true (by have := of_decide_eq_true (h.2 c hc); omega)
end W9
namespace W9
open PySem PySem.Spec PyProof.Rows L2
/-- a list of words -/
def WL (n : Nat) (l : List PyData) : Prop := ∃ ls : List (List Nat), l = txts ls ∧ (∀ w ∈ ls, Wrd w) ∧ ls.length ≤ n
theorem cut_mem {α : Type} {l : List α} {lo hi : Option Int} {x : α} (h : x ∈ cut l lo hi) : x ∈ l := List.mem_of_mem_drop (List.mem_of_mem_take h)
theorem WL.cut {n : Nat} {l : List PyData} {lo hi : Option Int} (h : WL n l) : WL n (cut l lo hi) := by
  obtain ⟨ls, rfl, h1, h2⟩ := h
  exact ⟨W9.cut ls lo hi, cut_map _ _ _ _, fun w hw => h1 w (cut_mem hw), cut_le h2⟩
theorem WL.app {n k : Nat} {a b : List PyData} (h : WL n a) (h2 : WL k b) : WL (n + k) (a ++ b) := by
  obtain ⟨x, rfl, x1, x2⟩ := h
  obtain ⟨y, rfl, y1, y2⟩ := h2
  exact ⟨x ++ y, (List.map_append).symm, fun w hw => (List.mem_append.mp hw).elim (x1 w) (y1 w), by rw [List.length_append]; omega⟩
theorem WL.one {w : List Nat} (h : Wrd w) : WL 1 [.str ⟨w.toArray⟩] := ⟨[w], rfl, fun v hv => by rw [List.mem_singleton.mp hv]; exact h, Nat.le_refl _⟩
theorem WL.rev {n : Nat} {l : List PyData} (h : WL n l) : WL n l.reverse := by
  obtain ⟨ls, rfl, h1, h2⟩ := h
  exact ⟨ls.reverse, (List.map_reverse).symm, fun w hw => h1 w (List.mem_reverse.mp hw), by rw [List.length_reverse]; exact h2⟩
theorem WL.len {n : Nat} {l : List PyData} (h : WL n l) : l.length ≤ n := by
  obtain ⟨ls, rfl, _, h2⟩ := h
  rw [List.length_map]
  exact h2
theorem WL.le {n k : Nat} {l : List PyData} (h : WL n l) (hk : n ≤ k) : WL k l := let ⟨ls, a, b, c⟩ := h; ⟨ls, a, b, Nat.le_trans c hk⟩
/-- what a key, a told thing of a drawn sheet is -/
structure TlD (leaf : Bool) (t : Tl) : Prop where
  f : TlFit leaf t
  o : tlOk t = true
  i : ∀ j, t = .nw j → j < 5
structure ShD (s : Sh) : Prop where
  f : ShFit s
  b : isSheetB s = true
  n : ∀ q ∈ s.es, ∀ j, q.2 = Tl.nw j → j < 5
structure KsD (leaf : Bool) (ks : List (List Nat)) : Prop where
  w : ∀ w ∈ ks, Wrd w ∧ kOk w = true
  a : Asc ks
  l : lowOf leaf ≤ ks.length ∧ ks.length ≤ 4
theorem ks_ab : KsD false [[97], [98]] := ⟨fun w hw => by
  have : ∀ w ∈ ([[97], [98]] : List (List Nat)), (wrdB w && kOk w) = true := by decide
  have := this w hw
  rw [Bool.and_eq_true] at this
  exact ⟨wrd_of this.1, this.2⟩, (chain_asc _).mp (by decide), by decide⟩
theorem ks_take {ws : List (List Nat)} {n : Nat} (h : ∀ w ∈ ws, Wrd w ∧ kOk w = true) (hn : n ≤ 4) {leaf : Bool} (hl : lowOf leaf ≤ ((sds ws).take n).length) : KsD leaf ((sds ws).take n) :=
  ⟨fun w hw => h w ((sds_mem w ws).mp (List.mem_of_mem_take hw)), (sds_asc ws).sublist (List.take_sublist _ _), hl, by rw [List.length_take]; omega⟩
theorem sds_pos {ws : List (List Nat)} (h : 0 < ws.length) : 0 < (sds ws).length := by
  cases ws with
  | nil => simp at h
  | cons w ws =>
    have : w ∈ sds (w :: ws) := (sds_mem w _).mpr List.mem_cons_self
    exact List.length_pos_of_mem this
theorem ks_sheet {leaf : Bool} {ks : List (List Nat)} {ts : List Tl} (h : KsD leaf ks) (hl : ts.length = ks.length) (ht : ∀ t ∈ ts, TlD leaf t) : ShD ⟨leaf, List.zip ks ts⟩ := by
  refine ⟨⟨fun q hq => ?_, ?_⟩, ?_, fun q hq j e => ?_⟩
  · obtain ⟨h1, h2⟩ := List.of_mem_zip (show (q.1, q.2) ∈ List.zip ks ts from hq)
    exact ⟨(h.w _ h1).1, (ht _ h2).f⟩
  · show (List.zip ks ts).length ≤ 1000
    have := h.l.2
    rw [List.length_zip]
    omega
  · rw [sheet_zip hl.symm, decide_eq_true h.l.1, decide_eq_true h.l.2, (chain_asc ks).mpr h.a, List.all_eq_true.mpr fun w hw => (h.w w hw).2, List.all_eq_true.mpr fun t h => (ht t h).o]
    rfl
  · obtain ⟨h1, h2⟩ := List.of_mem_zip (show (q.1, q.2) ∈ List.zip ks ts from hq)
    exact (ht _ h2).i j e
theorem ShD.in_ {s : Sh} {ps : List Int} (h : ShD s) (hl : ps.length = 5) (hp : ∀ i ∈ ps, 0 ≤ i ∧ i < 600) : ShIn s ps := by
  have hb := h.b
  unfold isSheetB at hb
  have h1 := (Bool.and_eq_true_iff.mp hb).1
  have h4 := (Bool.and_eq_true_iff.mp (Bool.and_eq_true_iff.mp hb).2).2
  refine ⟨fun q hq => ?_, fun i hi => ?_, of_decide_eq_true (Bool.and_eq_true_iff.mp h1).2⟩
  · have ho := List.all_eq_true.mp h4 q hq
    have hn := h.n q hq
    obtain ⟨w, t⟩ := q
    cases t with
    | v u => trivial
    | n i =>
      have ho : inR i = true := ho
      have hlt := inR_lt ho
      unfold inR at ho
      rw [Bool.and_eq_true, decide_eq_true_eq] at ho
      exact ⟨ho.1, by omega⟩
    | nw i =>
      have ho : inR i = true := ho
      unfold inR at ho
      rw [Bool.and_eq_true, decide_eq_true_eq] at ho
      have := hn i rfl
      exact ⟨ho.1, by omega⟩
  · have := hp i hi
    omega
theorem ps_inR {ps : List Int} (hp : ∀ i ∈ ps, 0 ≤ i ∧ i < 600) : ps.all inR = true := by
  rw [List.all_eq_true]
  intro i hi
  have := hp i hi
  unfold inR
  rw [Bool.and_eq_true, decide_eq_true_eq, decide_eq_true_eq]
  omega
theorem tl_len {ps : List Int} {leaf : Bool} {t : Tl} (h : TlFit leaf t) (ho : tlOk t = true) (hi : TlIn ps t) (hp : ∀ i ∈ ps, 0 ≤ i ∧ i < 600) : (tlW ps t).length ≤ 13 := by
  cases t with
  | v w =>
    have ho : vOk w = true := ho
    unfold vOk sgB at ho
    rw [Bool.and_eq_true, Bool.and_eq_true, decide_eq_true_eq, decide_eq_true_eq] at ho
    exact ho.1.2
  | n i =>
    have hlt := inR_lt (show inR i = true from ho)
    have e : i = ((i.natAbs : Nat) : Int) := by have := hi.1; omega
    show (intS i).length ≤ 13
    rw [e, intS_num]
    have := TL.numL_len (n := i.natAbs) (k := 12) (by decide) hlt
    omega
  | nw i =>
    have hg : ps.getD i.toNat 0 ∈ ps := by
      rw [List.getD_eq_getElem?_getD, List.getElem?_eq_getElem hi.2]
      exact List.getElem_mem _
    have := hp _ hg
    show (intS (ps.getD i.toNat 0)).length ≤ 13
    have e : ps.getD i.toNat 0 = (((ps.getD i.toNat 0).toNat : Nat) : Int) := by omega
    rw [e, intS_num]
    have := TL.numL_len (n := (ps.getD i.toNat 0).toNat) (k := 3) (by decide) (by omega)
    omega
theorem join_len2 {k : Nat} : ∀ {l : List (List Nat)}, l ≠ [] → (∀ w ∈ l, w.length ≤ k) → (joinL [10] l).length + 1 ≤ l.length * (k + 1)
  | [], h, _ => absurd rfl h
  | [w], _, h => by
    have := h w List.mem_cons_self
    simp [joinL]
    omega
  | w :: v :: l, _, h => by
    have h1 := h w List.mem_cons_self
    have h2 := join_len2 (l := v :: l) (by simp) fun u hu => h u (List.mem_cons_of_mem _ hu)
    have e : joinL [10] (w :: v :: l) = w ++ [10] ++ joinL [10] (v :: l) := rfl
    have e2 : (w :: v :: l).length * (k + 1) = (v :: l).length * (k + 1) + (k + 1) := by rw [List.length_cons, Nat.succ_mul]
    rw [e, e2, List.length_append, List.length_append]
    simp only [List.length_cons, List.length_nil] at h1 h2 ⊢
    omega
theorem text_len {s : Sh} {ps : List Int} (h : ShD s) (hi : ShIn s ps) (hp : ∀ i ∈ ps, 0 ≤ i ∧ i < 600) : (textS s ps).length ≤ 113 := by
  have hb := h.b
  unfold isSheetB at hb
  have h4 := (Bool.and_eq_true_iff.mp (Bool.and_eq_true_iff.mp hb).2)
  have hk := (Bool.and_eq_true_iff.mp h4.1).1
  have hle := hi.l
  have h1 : 1 ≤ s.es.length := by
    have := of_decide_eq_true (Bool.and_eq_true_iff.mp (Bool.and_eq_true_iff.mp hb).1).1
    unfold lowOf at this
    split at this <;> omega
  have hw : ∀ w ∈ bodyS s.es ps, w.length ≤ 13 := fun w hw => by
    unfold bodyS at hw
    obtain ⟨l, h5, h6⟩ := List.mem_flatten.mp hw
    obtain ⟨q, hq, rfl⟩ := List.mem_map.mp h5
    rcases List.mem_cons.mp h6 with e | e
    · have ho : kOk q.1 = true := List.all_eq_true.mp hk q hq
      rw [e]
      unfold kOk sgB at ho
      rw [Bool.and_eq_true, Bool.and_eq_true, decide_eq_true_eq, decide_eq_true_eq] at ho
      exact ho.1.2
    · rw [List.mem_singleton.mp e]
      exact tl_len (h.f.k q hq).2 (List.all_eq_true.mp h4.2 q hq) (hi.t q hq) hp
  have hbl := body_len s.es ps
  have hj := join_len2 (fun z => by rw [z] at hbl; simp only [List.length_nil] at hbl; omega) hw
  have e1 : ∀ (x : Nat) (l : List (List Nat)), (joinL [10] ([x] :: l)).length ≤ 2 + (joinL [10] l).length := fun x l => by
    cases l with
    | nil => simp [joinL]
    | cons y r =>
      show ([x] ++ [10] ++ joinL [10] (y :: r)).length ≤ _
      rw [List.length_append, List.length_append]
      simp
  have e2 : (textS s ps).length ≤ 2 + (joinL [10] (bodyS s.es ps)).length := by
    unfold textS wordsS
    cases s.leaf
    · exact e1 102 _
    · exact e1 108 _
  rw [hbl] at hj
  have : 2 * s.es.length * (13 + 1) ≤ 2 * 4 * (13 + 1) := Nat.mul_le_mul_right _ (by omega)
  omega
theorem rep_read {t : List Nat} (h : OkT t) (hl : t.length ≤ 113) : Rep (shO (readP t)) := by
  unfold readP
  split
  · split
    · split
      · exact rep_none
      · unfold pick
        split
        · rename_i q
          exact rep_sh q (fork_fit h hl)
        · exact rep_none
    · unfold pick
      split
      · rename_i q
        exact rep_sh q (leaf_fit h hl)
      · exact rep_none
  · exact rep_none
theorem read_nil : readP [] = none := by decide
end W9
namespace W9
open PySem PySem.Spec PyProof.Rows L2
theorem set_same {α : Type} {l : List α} {i : Nat} {x : α} (h : l[i]? = some x) : l.set i x = l := List.ext_getElem? fun j => by
  by_cases e : i = j
  · subst e
    obtain ⟨hl, hx⟩ := List.getElem?_eq_some_iff.mp h
    rw [List.getElem?_set_self hl, h]
  · rw [List.getElem?_set_ne e]
section
variable {X : Cx} {ds : DE} {m : MS} {e a b c : Expr} {es : List Expr} {pos p q : Pos}
/-- if c: y = e, and on -/
theorem wss_ifset {sts : List Stmt} {i : Nat} {x : Str} {d0 d1 : SD} {k : Bool} {E : ED} (hN : X.N.Nodup) (h : ET X c ds k) (hv : k = true → EE X e ds d1) (h0 : ds[i]? = some (some d0)) (hn : ∀ d, d = (if k = true then d1 else d0) → WSs X sts (ds.set i (some d)) m E)
    (hi : X.N[i]? = some x := by rfl) (hx : Loc X.env.scope x := by first | exact Or.inl rfl | exact Or.inr rfl)
    (hs : swapsWith e (some (.Name x p)) q.line X.env = pure false := by rfl) (hf : X.fn x = true ∨ X.env.scope.names.lookup x = some .local := by first | exact .inl rfl | exact .inr rfl | assumption) : WSs X (.If c [.Assign [.Name x p] e q] [] pos :: sts) ds m E :=
  wss_cons (ws_ife h (fun hk => wss_one (ws_set hN ((hv hk).to (hn d1 (by rw [if_pos hk]))) hi hx hs hf)) fun hk => wss_nil (by
    have z := hn d0 (by rw [hk, if_neg Bool.false_ne_true])
    rw [set_same h0] at z
    exact z))
end
end W9
namespace W9
open PySem PySem.Spec PyProof.Rows L2
/-- two things, turned about -/
def sw2 {α : Type} : List α → List α
  | [a, b] => [b, a]
  | l => l
theorem sw_vals : ∀ {vs : List V} {us : List Value}, Vals vs us → Vals (sw2 vs) (sw2 us)
  | _, _, .nil => .nil
  | _, _, .cons a .nil => .cons a .nil
  | _, _, .cons a (.cons b .nil) => .cons b (.cons a .nil)
  | _, _, .cons a (.cons b (.cons c r)) => .cons a (.cons b (.cons c r))
theorem sw_dss {K : PySem.W.Frag} {G : Hp} {vs : List V} {x y : SD} (h : DSs K G vs [x, y]) : DSs K G (sw2 vs) [y, x] := by
  cases h with
  | cons a h => cases h with
    | cons b h => cases h; exact .cons b (.cons a .nil)
/-! ### built-in names -/

namespace K76
theorem bo_len : bootBuiltins "len" = some (.builtin "len") := by decide +kernel
theorem bo_all : bootBuiltins "all" = some (.builtin "all") := by decide +kernel
theorem bo_any : bootBuiltins "any" = some (.builtin "any") := by decide +kernel
theorem bo_isinstance : bootBuiltins "isinstance" = some (.builtin "isinstance") := by decide +kernel
theorem bo_sum : bootBuiltins "sum" = some (.builtin "sum") := by decide +kernel
theorem bo_abs : bootBuiltins "abs" = some (.builtin "abs") := by decide +kernel
theorem bo_max : bootBuiltins "max" = some (.builtin "max") := by decide +kernel
theorem bo_min : bootBuiltins "min" = some (.builtin "min") := by decide +kernel
theorem bo_repr : bootBuiltins "repr" = some (.builtin "repr") := by decide +kernel
theorem bo_sorted : bootBuiltins "sorted" = some (.builtin "sorted") := by decide +kernel
theorem bo_int : bootBuiltins "int" = some (.type "int") := by decide +kernel
theorem bo_set : bootBuiltins "set" = some (.type "set") := by decide +kernel
theorem bo_bool : bootBuiltins "bool" = some (.type "bool") := by decide +kernel
theorem bo_str : bootBuiltins "str" = some (.type "str") := by decide +kernel
theorem bo_tuple : bootBuiltins "tuple" = some (.type "tuple") := by decide +kernel
theorem bo_list : bootBuiltins "list" = some (.type "list") := by decide +kernel
theorem bo_range : bootBuiltins "range" = some (.type "range") := by decide +kernel
theorem bo_zip : bootBuiltins "zip" = some (.type "zip") := by decide +kernel
/-! ### the text's parts -/
def topS (i : Nat) : Stmt := PySem.Challenge.pw_wornyettold_k76_whole_sheets_and_page_te.main.body.getD i (.Pass ⟨0, 0, 0, 0⟩)
theorem sc_is_whole : FnScope ["value"] ["value"] (defScope (topS 12)) := ⟨rfl, rfl, rfl, by decide +kernel, rfl, by decide +kernel, by decide +kernel⟩
theorem sc_is_integer : FnScope ["value", "low", "high"] ["value", "low", "high"] (defScope (topS 13)) := ⟨rfl, rfl, rfl, by decide +kernel, rfl, by decide +kernel, by decide +kernel⟩
theorem sc_is_tuple : FnScope ["value", "low", "high"] ["value", "low", "high"] (defScope (topS 14)) := ⟨rfl, rfl, rfl, by decide +kernel, rfl, by decide +kernel, by decide +kernel⟩
theorem sc_is_string : FnScope ["value", "some"] ["value", "some"] (defScope (topS 15)) := ⟨rfl, rfl, rfl, by decide +kernel, rfl, by decide +kernel, by decide +kernel⟩
theorem sc_are_signs : FnScope ["value", "low", "high", "first", "sign"] ["value", "low", "high", "first"] (defScope (topS 16)) := ⟨rfl, rfl, rfl, by decide +kernel, rfl, by decide +kernel, by decide +kernel⟩
theorem sc_is_page_text : FnScope ["value", "sign"] ["value"] (defScope (topS 17)) := ⟨rfl, rfl, rfl, by decide +kernel, rfl, by decide +kernel, by decide +kernel⟩
theorem sc_is_key : FnScope ["value"] ["value"] (defScope (topS 18)) := ⟨rfl, rfl, rfl, by decide +kernel, rfl, by decide +kernel, by decide +kernel⟩
theorem sc_is_value : FnScope ["value"] ["value"] (defScope (topS 19)) := ⟨rfl, rfl, rfl, by decide +kernel, rfl, by decide +kernel, by decide +kernel⟩
theorem sc_long_whole_in : FnScope ["word", "figures", "sign"] ["word"] (defScope (topS 20)) := ⟨rfl, rfl, rfl, by decide +kernel, rfl, by decide +kernel, by decide +kernel⟩
theorem sc_whole_in : FnScope ["word", "figures"] ["word"] (defScope (topS 21)) := ⟨rfl, rfl, rfl, by decide +kernel, rfl, by decide +kernel, by decide +kernel⟩
theorem sc_are_ascending : FnScope ["keys", "key", "one", "other"] ["keys"] (defScope (topS 37)) := ⟨rfl, rfl, rfl, by decide +kernel, rfl, by decide +kernel, by decide +kernel⟩
theorem sc_is_child : FnScope ["value"] ["value"] (defScope (topS 38)) := ⟨rfl, rfl, rfl, by decide +kernel, rfl, by decide +kernel, by decide +kernel⟩
theorem sc_is_sheet : FnScope ["value", "low", "entry"] ["value"] (defScope (topS 39)) := ⟨rfl, rfl, rfl, by decide +kernel, rfl, by decide +kernel, by decide +kernel⟩
theorem sc_sheet_of : FnScope ["text", "words", "told", "found", "word"] ["text"] (defScope (topS 40)) := ⟨rfl, rfl, rfl, by decide +kernel, rfl, by decide +kernel, by decide +kernel⟩
theorem sc_sheet_in : FnScope ["text"] ["text"] (defScope (topS 41)) := ⟨rfl, rfl, rfl, by decide +kernel, rfl, by decide +kernel, by decide +kernel⟩
theorem sc_sheet_text : FnScope ["sheet", "places", "words", "key", "told"] ["sheet", "places"] (defScope (topS 42)) := ⟨rfl, rfl, rfl, by decide +kernel, rfl, by decide +kernel, by decide +kernel⟩
theorem sc_written : FnScope ["sheet", "places", "children", "place", "key", "told", "child"] ["sheet", "places"] (defScope (topS 43)) := ⟨rfl, rfl, rfl, by decide +kernel, rfl, by decide +kernel, by decide +kernel⟩
theorem sc__law_pot : FnScope ["script", "place", "cell", "own", "small"] ["script", "place"] (defScope (topS 45)) := ⟨rfl, rfl, rfl, by decide +kernel, rfl, by decide +kernel, by decide +kernel⟩
theorem sc__law_take : FnScope ["pot", "upto", "digit", "prime", "blend"] ["pot", "upto"] (defScope (topS 46)) := ⟨rfl, rfl, rfl, by decide +kernel, rfl, by decide +kernel, by decide +kernel⟩
theorem sc__law_of : FnScope ["pot", "some"] ["pot", "some"] (defScope (topS 47)) := ⟨rfl, rfl, rfl, by decide +kernel, rfl, by decide +kernel, by decide +kernel⟩
theorem sc__law_cells : FnScope ["script", "most"] ["script", "most"] (defScope (topS 48)) := ⟨rfl, rfl, rfl, by decide +kernel, rfl, by decide +kernel, by decide +kernel⟩
theorem sc__law_map_is_key : FnScope ["value", "sign"] ["value"] (defScope (topS 49)) := ⟨rfl, rfl, rfl, by decide +kernel, rfl, by decide +kernel, by decide +kernel⟩
theorem sc__law_map_is_value : FnScope ["value", "sign"] ["value"] (defScope (topS 50)) := ⟨rfl, rfl, rfl, by decide +kernel, rfl, by decide +kernel, by decide +kernel⟩
theorem sc__law_map_number : FnScope ["word", "sign"] ["word"] (defScope (topS 51)) := ⟨rfl, rfl, rfl, by decide +kernel, rfl, by decide +kernel, by decide +kernel⟩
theorem sc__law_map_sheet : FnScope ["text", "words", "kind", "keys", "told", "word", "key", "one"] ["text"] (defScope (topS 52)) := ⟨rfl, rfl, rfl, by decide +kernel, rfl, by decide +kernel, by decide +kernel⟩
theorem sc__law_map_key_drawn : FnScope ["pot", "way", "signs", "lap"] ["pot"] (defScope (topS 53)) := ⟨rfl, rfl, rfl, by decide +kernel, rfl, by decide +kernel, by decide +kernel⟩
theorem sc__law_map_value_drawn : FnScope ["pot", "some", "signs", "lap"] ["pot"] (defScope (topS 54)) := ⟨rfl, rfl, rfl, by decide +kernel, rfl, by decide +kernel, by decide +kernel⟩
theorem sc__law_sheet : FnScope ["pot", "kind", "keys", "found", "key", "way", "child", "lap"] ["pot"] (defScope (topS 55)) := ⟨rfl, rfl, rfl, by decide +kernel, rfl, by decide +kernel, by decide +kernel⟩
theorem sc__law_text : FnScope ["sheet", "places", "words", "key", "told", "place"] ["sheet", "places"] (defScope (topS 56)) := ⟨rfl, rfl, rfl, by decide +kernel, rfl, by decide +kernel, by decide +kernel⟩
theorem sc__law_read : FnScope ["text", "told"] ["text"] (defScope (topS 57)) := ⟨rfl, rfl, rfl, by decide +kernel, rfl, by decide +kernel, by decide +kernel⟩
theorem sc__law_is_specified : FnScope ["text", "word"] ["text"] (defScope (topS 58)) := ⟨rfl, rfl, rfl, by decide +kernel, rfl, by decide +kernel, by decide +kernel⟩
theorem sc__law_near : FnScope ["pot", "text", "words", "found", "lap", "at", "more", "rows", "one"] ["pot", "text"] (defScope (topS 59)) := ⟨rfl, rfl, rfl, by decide +kernel, rfl, by decide +kernel, by decide +kernel⟩
theorem sc__law_right : FnScope ["pot", "lap", "sheet", "places", "due", "text", "child"] ["pot"] (defScope (topS 60)) := ⟨rfl, rfl, rfl, by decide +kernel, rfl, by decide +kernel, by decide +kernel⟩
theorem sc_law : FnScope ["script", "place"] ["script"] (defScope (topS 61)) := ⟨rfl, rfl, rfl, by decide +kernel, rfl, by decide +kernel, by decide +kernel⟩
structure Tx (K : PySem.W.Frag) (mg : Str → Option Value) where
  a_is_whole : Addr
  d_is_whole : FuncData
  F_is_whole : Fun K "is_whole" "is_whole" (topS 12) a_is_whole d_is_whole
  m_is_whole : mg "is_whole" = some (.ref a_is_whole)
  b_is_whole : Binds K d_is_whole ["value"] []
  a_is_integer : Addr
  d_is_integer : FuncData
  F_is_integer : Fun K "is_integer" "is_integer" (topS 13) a_is_integer d_is_integer
  m_is_integer : mg "is_integer" = some (.ref a_is_integer)
  b_is_integer : Binds K d_is_integer ["value", "low", "high"] []
  a_is_tuple : Addr
  d_is_tuple : FuncData
  F_is_tuple : Fun K "is_tuple" "is_tuple" (topS 14) a_is_tuple d_is_tuple
  m_is_tuple : mg "is_tuple" = some (.ref a_is_tuple)
  b_is_tuple : Binds K d_is_tuple ["value", "low", "high"] []
  a_is_string : Addr
  d_is_string : FuncData
  F_is_string : Fun K "is_string" "is_string" (topS 15) a_is_string d_is_string
  m_is_string : mg "is_string" = some (.ref a_is_string)
  b_is_string : Binds K d_is_string ["value", "some"] []
  a_are_signs : Addr
  d_are_signs : FuncData
  F_are_signs : Fun K "are_signs" "are_signs" (topS 16) a_are_signs d_are_signs
  m_are_signs : mg "are_signs" = some (.ref a_are_signs)
  b_are_signs : Binds K d_are_signs ["value", "low", "high", "first"] []
  a_is_page_text : Addr
  d_is_page_text : FuncData
  F_is_page_text : Fun K "is_page_text" "is_page_text" (topS 17) a_is_page_text d_is_page_text
  m_is_page_text : mg "is_page_text" = some (.ref a_is_page_text)
  b_is_page_text : Binds K d_is_page_text ["value"] []
  a_is_key : Addr
  d_is_key : FuncData
  F_is_key : Fun K "is_key" "is_key" (topS 18) a_is_key d_is_key
  m_is_key : mg "is_key" = some (.ref a_is_key)
  b_is_key : Binds K d_is_key ["value"] []
  a_is_value : Addr
  d_is_value : FuncData
  F_is_value : Fun K "is_value" "is_value" (topS 19) a_is_value d_is_value
  m_is_value : mg "is_value" = some (.ref a_is_value)
  b_is_value : Binds K d_is_value ["value"] []
  a_long_whole_in : Addr
  d_long_whole_in : FuncData
  F_long_whole_in : Fun K "long_whole_in" "long_whole_in" (topS 20) a_long_whole_in d_long_whole_in
  m_long_whole_in : mg "long_whole_in" = some (.ref a_long_whole_in)
  b_long_whole_in : Binds K d_long_whole_in ["word"] []
  a_whole_in : Addr
  d_whole_in : FuncData
  F_whole_in : Fun K "whole_in" "whole_in" (topS 21) a_whole_in d_whole_in
  m_whole_in : mg "whole_in" = some (.ref a_whole_in)
  b_whole_in : Binds K d_whole_in ["word"] []
  a_are_ascending : Addr
  d_are_ascending : FuncData
  F_are_ascending : Fun K "are_ascending" "are_ascending" (topS 37) a_are_ascending d_are_ascending
  m_are_ascending : mg "are_ascending" = some (.ref a_are_ascending)
  b_are_ascending : Binds K d_are_ascending ["keys"] []
  a_is_child : Addr
  d_is_child : FuncData
  F_is_child : Fun K "is_child" "is_child" (topS 38) a_is_child d_is_child
  m_is_child : mg "is_child" = some (.ref a_is_child)
  b_is_child : Binds K d_is_child ["value"] []
  a_is_sheet : Addr
  d_is_sheet : FuncData
  F_is_sheet : Fun K "is_sheet" "is_sheet" (topS 39) a_is_sheet d_is_sheet
  m_is_sheet : mg "is_sheet" = some (.ref a_is_sheet)
  b_is_sheet : Binds K d_is_sheet ["value"] []
  a_sheet_of : Addr
  d_sheet_of : FuncData
  F_sheet_of : Fun K "sheet_of" "sheet_of" (topS 40) a_sheet_of d_sheet_of
  m_sheet_of : mg "sheet_of" = some (.ref a_sheet_of)
  b_sheet_of : Binds K d_sheet_of ["text"] []
  a_sheet_in : Addr
  d_sheet_in : FuncData
  F_sheet_in : Fun K "sheet_in" "sheet_in" (topS 41) a_sheet_in d_sheet_in
  m_sheet_in : mg "sheet_in" = some (.ref a_sheet_in)
  b_sheet_in : Binds K d_sheet_in ["text"] []
  a_sheet_text : Addr
  d_sheet_text : FuncData
  F_sheet_text : Fun K "sheet_text" "sheet_text" (topS 42) a_sheet_text d_sheet_text
  m_sheet_text : mg "sheet_text" = some (.ref a_sheet_text)
  b_sheet_text : Binds K d_sheet_text ["sheet", "places"] []
  a_written : Addr
  d_written : FuncData
  F_written : Fun K "written" "written" (topS 43) a_written d_written
  m_written : mg "written" = some (.ref a_written)
  b_written : Binds K d_written ["sheet", "places"] []
  a__law_pot : Addr
  d__law_pot : FuncData
  F__law_pot : Fun K "_law_pot" "_law_pot" (topS 45) a__law_pot d__law_pot
  m__law_pot : mg "_law_pot" = some (.ref a__law_pot)
  b__law_pot : Binds K d__law_pot ["script", "place"] []
  a__law_take : Addr
  d__law_take : FuncData
  F__law_take : Fun K "_law_take" "_law_take" (topS 46) a__law_take d__law_take
  m__law_take : mg "_law_take" = some (.ref a__law_take)
  b__law_take : Binds K d__law_take ["pot", "upto"] []
  a__law_of : Addr
  d__law_of : FuncData
  F__law_of : Fun K "_law_of" "_law_of" (topS 47) a__law_of d__law_of
  m__law_of : mg "_law_of" = some (.ref a__law_of)
  b__law_of : Binds K d__law_of ["pot", "some"] []
  a__law_cells : Addr
  d__law_cells : FuncData
  F__law_cells : Fun K "_law_cells" "_law_cells" (topS 48) a__law_cells d__law_cells
  m__law_cells : mg "_law_cells" = some (.ref a__law_cells)
  b__law_cells : Binds K d__law_cells ["script", "most"] []
  a__law_map_is_key : Addr
  d__law_map_is_key : FuncData
  F__law_map_is_key : Fun K "_law_map_is_key" "_law_map_is_key" (topS 49) a__law_map_is_key d__law_map_is_key
  m__law_map_is_key : mg "_law_map_is_key" = some (.ref a__law_map_is_key)
  b__law_map_is_key : Binds K d__law_map_is_key ["value"] []
  a__law_map_is_value : Addr
  d__law_map_is_value : FuncData
  F__law_map_is_value : Fun K "_law_map_is_value" "_law_map_is_value" (topS 50) a__law_map_is_value d__law_map_is_value
  m__law_map_is_value : mg "_law_map_is_value" = some (.ref a__law_map_is_value)
  b__law_map_is_value : Binds K d__law_map_is_value ["value"] []
  a__law_map_number : Addr
  d__law_map_number : FuncData
  F__law_map_number : Fun K "_law_map_number" "_law_map_number" (topS 51) a__law_map_number d__law_map_number
  m__law_map_number : mg "_law_map_number" = some (.ref a__law_map_number)
  b__law_map_number : Binds K d__law_map_number ["word"] []
  a__law_map_sheet : Addr
  d__law_map_sheet : FuncData
  F__law_map_sheet : Fun K "_law_map_sheet" "_law_map_sheet" (topS 52) a__law_map_sheet d__law_map_sheet
  m__law_map_sheet : mg "_law_map_sheet" = some (.ref a__law_map_sheet)
  b__law_map_sheet : Binds K d__law_map_sheet ["text"] []
  a__law_map_key_drawn : Addr
  d__law_map_key_drawn : FuncData
  F__law_map_key_drawn : Fun K "_law_map_key_drawn" "_law_map_key_drawn" (topS 53) a__law_map_key_drawn d__law_map_key_drawn
  m__law_map_key_drawn : mg "_law_map_key_drawn" = some (.ref a__law_map_key_drawn)
  b__law_map_key_drawn : Binds K d__law_map_key_drawn ["pot"] []
  a__law_map_value_drawn : Addr
  d__law_map_value_drawn : FuncData
  F__law_map_value_drawn : Fun K "_law_map_value_drawn" "_law_map_value_drawn" (topS 54) a__law_map_value_drawn d__law_map_value_drawn
  m__law_map_value_drawn : mg "_law_map_value_drawn" = some (.ref a__law_map_value_drawn)
  b__law_map_value_drawn : Binds K d__law_map_value_drawn ["pot"] []
  a__law_sheet : Addr
  d__law_sheet : FuncData
  F__law_sheet : Fun K "_law_sheet" "_law_sheet" (topS 55) a__law_sheet d__law_sheet
  m__law_sheet : mg "_law_sheet" = some (.ref a__law_sheet)
  b__law_sheet : Binds K d__law_sheet ["pot"] []
  a__law_text : Addr
  d__law_text : FuncData
  F__law_text : Fun K "_law_text" "_law_text" (topS 56) a__law_text d__law_text
  m__law_text : mg "_law_text" = some (.ref a__law_text)
  b__law_text : Binds K d__law_text ["sheet", "places"] []
  a__law_read : Addr
  d__law_read : FuncData
  F__law_read : Fun K "_law_read" "_law_read" (topS 57) a__law_read d__law_read
  m__law_read : mg "_law_read" = some (.ref a__law_read)
  b__law_read : Binds K d__law_read ["text"] []
  a__law_is_specified : Addr
  d__law_is_specified : FuncData
  F__law_is_specified : Fun K "_law_is_specified" "_law_is_specified" (topS 58) a__law_is_specified d__law_is_specified
  m__law_is_specified : mg "_law_is_specified" = some (.ref a__law_is_specified)
  b__law_is_specified : Binds K d__law_is_specified ["text"] []
  a__law_near : Addr
  d__law_near : FuncData
  F__law_near : Fun K "_law_near" "_law_near" (topS 59) a__law_near d__law_near
  m__law_near : mg "_law_near" = some (.ref a__law_near)
  b__law_near : Binds K d__law_near ["pot", "text"] []
  a__law_right : Addr
  d__law_right : FuncData
  F__law_right : Fun K "_law_right" "_law_right" (topS 60) a__law_right d__law_right
  m__law_right : mg "_law_right" = some (.ref a__law_right)
  b__law_right : Binds K d__law_right ["pot"] []
  a_law : Addr
  d_law : FuncData
  F_law : Fun K "law" "law" (topS 61) a_law d_law
  m_law : mg "law" = some (.ref a_law)
  b_law : Binds K d_law ["script"] []
  m_len : mg "len" = none
  m_all : mg "all" = none
  m_any : mg "any" = none
  m_isinstance : mg "isinstance" = none
  m_sum : mg "sum" = none
  m_abs : mg "abs" = none
  m_max : mg "max" = none
  m_min : mg "min" = none
  m_repr : mg "repr" = none
  m_sorted : mg "sorted" = none
  m_int : mg "int" = none
  m_set : mg "set" = none
  m_bool : mg "bool" = none
  m_str : mg "str" = none
  m_tuple : mg "tuple" = none
  m_list : mg "list" = none
  m_range : mg "range" = none
  m_zip : mg "zip" = none
  c_FEED : ∃ t, mg "FEED" = some (.str ⟨([10] : List Nat).toArray⟩ t)
  c_MINUS : ∃ t, mg "MINUS" = some (.str ⟨([45] : List Nat).toArray⟩ t)
  c_FIGURES : ∃ t, mg "FIGURES" = some (.str ⟨([48, 49, 50, 51, 52, 53, 54, 55, 56, 57] : List Nat).toArray⟩ t)
  c_FIRST_SIGN : ∃ t, mg "FIRST_SIGN" = some (.str ⟨([32] : List Nat).toArray⟩ t)
  c_FIRST_KEY_SIGN : ∃ t, mg "FIRST_KEY_SIGN" = some (.str ⟨([33] : List Nat).toArray⟩ t)
  c_LOW_SIGNS : ∃ t, mg "LOW_SIGNS" = some (.str ⟨([32, 33, 34, 35, 36] : List Nat).toArray⟩ t)
  c_HIGH_SIGNS : ∃ t, mg "HIGH_SIGNS" = some (.str ⟨([38, 39, 40, 41, 42, 43, 44, 45, 46, 47, 48, 49, 50, 51, 52, 53, 54, 55, 56, 57, 58, 59, 60, 61, 62, 63, 64, 65, 66, 67, 68, 69, 70, 71, 72, 73, 74, 75, 76, 77, 78, 79, 80, 81, 82, 83, 84, 85, 86, 87, 88, 89, 90, 91, 92, 93, 94, 95, 96, 97, 98, 99, 100, 101, 102, 103, 104, 105, 106, 107, 108, 109, 110, 111, 112, 113, 114, 115, 116, 117, 118, 119, 120, 121, 122, 123, 124, 125, 126] : List Nat).toArray⟩ t)
  c_MOST_PAGE_SIGNS : ∃ t, mg "MOST_PAGE_SIGNS" = some (.int 113 t)
  c_MOST_KEY_SIGNS : ∃ t, mg "MOST_KEY_SIGNS" = some (.int 13 t)
  c_MOST_VALUE_SIGNS : ∃ t, mg "MOST_VALUE_SIGNS" = some (.int 13 t)
  c_MOST_FIGURES : ∃ t, mg "MOST_FIGURES" = some (.int 12 t)
  c_LEAF : ∃ t, mg "LEAF" = some (.str ⟨([108, 101, 97, 102] : List Nat).toArray⟩ t)
  c_FORK : ∃ t, mg "FORK" = some (.str ⟨([102, 111, 114, 107] : List Nat).toArray⟩ t)
  c_LEAF_WORD : ∃ t, mg "LEAF_WORD" = some (.str ⟨([108] : List Nat).toArray⟩ t)
  c_FORK_WORD : ∃ t, mg "FORK_WORD" = some (.str ⟨([102] : List Nat).toArray⟩ t)
  c_NEW : ∃ t, mg "NEW" = some (.str ⟨([110, 101, 119] : List Nat).toArray⟩ t)
  c_PAIR : ∃ t, mg "PAIR" = some (.int 2 t)
  c_FEWEST : ∃ t, mg "FEWEST" = some (.int 2 t)
  c_MOST : ∃ t, mg "MOST" = some (.int 4 t)
  c_MOST_PLACE : ∃ t, mg "MOST_PLACE" = some (.int 999999999999 t)
  bk_written : ∀ (s : Shared) (us : List Value), K.In s.heap → us.length = 2 → BindsTo s d_written ⟨[], (["places", "sheet"] : List Str).zip us⟩ ((["sheet", "places"] : List Str).zip (sw2 us))
  bk_sheet_in : ∀ (s : Shared) (us : List Value), K.In s.heap → us.length = 1 → BindsTo s d_sheet_in ⟨[], (["text"] : List Str).zip us⟩ ((["text"] : List Str).zip us)
end K76
end W9
namespace W9
namespace K76
open PySem PySem.Spec PyProof.Rows L2
local macro_rules | `(tactic| walk_at "sz") => `(tactic| first | assumption | omega | decide | (simp only [List.length_append, List.length_map, List.length_cons, List.length_nil]; omega) | (simp only [List.length_zip, List.length_drop, List.length_map, List.length_append, List.length_cons, List.length_nil]; omega))
local macro_rules | `(tactic| walk_at "bd") => `(tactic| first | exact bd_add | exact bd_sub | exact bd_mul (by omega) | exact bd_mod (by omega) | exact bd_pow (by omega) | exact bd_powX (by decide +kernel) | exact bd_mod (by decide +kernel) | exact bd_mulB | exact bd_div (by omega) | exact bd_mulS ⟨by omega, by omega, by omega⟩ | exact bd_addS (by walk_at "sz") | exact bd_catL (by walk_at "sz"))
local macro_rules | `(tactic| walk_at "cd") => `(tactic| first | exact cd_lt | exact cd_le | exact cd_gt | exact cd_ge | exact cd_eq | exact cd_ne | exact cd_noneInF ‹Rm 0 _› | exact cd_neL ‹Rm 0 _› (by walk_at "pl") (by walk_at "pl") | exact cd_notinTs | exact cd_inTs ‹Rm 0 _› (by walk_at "pc") (by walk_at "pl") | exact cd_inS | exact cd_isN | exact cd_notN | exact cd_eqS | exact cd_neS | exact cd_ltS | exact cd_leS | exact cd_gtS)
local macro_rules | `(tactic| walk_at "md") => `(tactic| first | exact md_split (by walk_at "sz") | exact md_isdigit | exact md_joinS (by walk_at "sz"))
local macro_rules | `(tactic| walk_at "sd") => `(tactic| first | exact sd_ints (l := [2147483647, 2147483629, 2147483587, 2147483579, 2147483563]) (by omega) (by simp only [List.length_cons, List.length_nil]; omega) | exact sd_lst (at_nn (by decide) (txts_get (lns_head _))) | exact sd_lst rfl | exact sd_tup rfl)
local macro_rules | `(tactic| walk_at "sl") => `(tactic| first | exact sl_L | exact sl_S (by walk_at "sz"))
local macro_rules | `(tactic| walk_at "rg") => `(tactic| omega)
local macro_rules | `(tactic| walk_at "ca") => `(tactic| first | exact ca_isiStr | exact ca_isiII | exact ca_isiIB | exact ca_isiTT | exact ca_isiIT | exact ca_isiST | exact ca_allm rfl | exact ca_anym rfl | exact ca_lenS (by walk_at "sz") | exact ca_lenL | exact ca_lenT | exact ca_tupL | exact ca_int | exact ca_intB | exact ca_strI (by walk_at "sz") | exact ca_abs | exact ca_max2 rfl | exact ca_min2 rfl)
local macro_rules | `(tactic| walk_at "fl") => `(tactic| first | rfl | simp)
local macro_rules | `(tactic| walk_at "rep") => `(tactic| assumption)
local macro_rules | `(tactic| walk_at "zz") => `(tactic| exact Nat.le_trans (Nat.min_le_right _ _) (by simp only [List.length_map]; omega))
local macro_rules | `(tactic| walk_at "call is_sheet") => `(tactic| exact .mk (by assumption))
local macro_rules | `(tactic| walk_at "ss") => `(tactic| walk_at "sz")
local macro_rules | `(tactic| walk_at "pl") => `(tactic| assumption)
local macro_rules | `(tactic| walk_at "pc") => `(tactic| assumption)
local macro_rules | `(tactic| walk_at "call is_whole") => `(tactic| exact .mk)
local macro_rules | `(tactic| walk_at "call is_integer") => `(tactic| exact .mk)
local macro_rules | `(tactic| walk_at "call is_tuple") => `(tactic| first | exact .tup | exact .int)
local macro_rules | `(tactic| walk_at "call is_string") => `(tactic| first | exact .new | exact .kd)
local macro_rules | `(tactic| walk_at "call is_page_text") => `(tactic| exact .mk (by assumption) (by assumption))
local macro_rules | `(tactic| walk_at "call is_child") => `(tactic| first | exact .n | exact .nw)
local macro_rules | `(tactic| walk_at "call sheet_of") => `(tactic| exact .mk (by assumption) (by assumption))
local macro_rules | `(tactic| walk_at "call sheet_in") => `(tactic| exact .mk (by assumption) (by assumption))
local macro_rules | `(tactic| walk_at "call _law_map_sheet") => `(tactic| exact .mk (by assumption) (by assumption))
local macro_rules | `(tactic| walk_at "call _law_read") => `(tactic| exact .mk (by assumption) (by assumption))
local macro_rules | `(tactic| walk_at "call _law_is_specified") => `(tactic| exact .mk (by assumption) (by assumption))
local macro_rules | `(tactic| walk_at "call sheet_text") => `(tactic| exact .mk (by assumption) (by assumption) (by assumption) (by assumption))
local macro_rules | `(tactic| walk_at "call _law_text") => `(tactic| exact .mk (by assumption) (by assumption) (by assumption) (by assumption))
local macro_rules | `(tactic| walk_at "call are_signs") => `(tactic| exact .mk (by assumption))
local macro_rules | `(tactic| walk_at "call is_key") => `(tactic| first | exact .mk (by assumption) | exact .mk (by solve_by_elim) | exact .mk (by walk_at "wd"))
local macro_rules | `(tactic| walk_at "call is_value") => `(tactic| first | exact .mk (by assumption) | exact .mk (by solve_by_elim) | exact .mk (by walk_at "wd"))
local macro_rules | `(tactic| walk_at "call long_whole_in") => `(tactic| exact .mk (by assumption))
local macro_rules | `(tactic| walk_at "call whole_in") => `(tactic| first | exact .mk (by assumption) | exact .mk (by solve_by_elim) | exact .mk (by walk_at "wd"))
local macro_rules | `(tactic| walk_at "call _law_map_is_key") => `(tactic| first | exact .mk (by assumption) | exact .mk (by solve_by_elim) | exact .mk (by walk_at "wd"))
local macro_rules | `(tactic| walk_at "call _law_map_is_value") => `(tactic| first | exact .mk (by assumption) | exact .mk (by solve_by_elim) | exact .mk (by walk_at "wd"))
local macro_rules | `(tactic| walk_at "call _law_map_number") => `(tactic| first | exact .mk (by assumption) | exact .mk (by solve_by_elim) | exact .mk (by walk_at "wd"))
local macro_rules | `(tactic| walk_at "call _law_cells") => `(tactic| exact .mk)

inductive R_is_whole : List SD → SD → Prop
  | mk {i : Int} : R_is_whole [I i] (B true)
inductive R_is_integer : List SD → SD → Prop
  | mk {i lo hi : Int} : R_is_integer [I i, I lo, I hi] (B (decide (lo ≤ i) && decide (i ≤ hi)))
inductive R_is_tuple : List SD → SD → Prop
  | tup {l : List PyData} {lo hi : Int} : R_is_tuple [Tp l, I lo, I hi] (B (decide (lo ≤ (l.length : Int)) && decide ((l.length : Int) ≤ hi)))
  | int {i lo hi : Int} : R_is_tuple [I i, I lo, I hi] (B false)
inductive R_is_string : List SD → SD → Prop
  | new : R_is_string [S nNew, Tp [.str ⟨nNew.toArray⟩]] (B true)
  | kd {b : Bool} : R_is_string [S (kdS b), Tp [.str ⟨nLeaf.toArray⟩, .str ⟨nFork.toArray⟩]] (B true)
inductive R_are_signs : List SD → SD → Prop
  | mk {w : List Nat} {f : Nat} (h : Wrd w) : R_are_signs [S w, I 1, I 13, S [f]] (B (sgB 1 13 f w))
inductive R_is_page_text : List SD → SD → Prop
  | mk {t : List Nat} (h : OkT t) (hl : t.length ≤ 113) : R_is_page_text [S t] (B true)
inductive R_is_key : List SD → SD → Prop
  | mk {w : List Nat} (h : Wrd w) : R_is_key [S w] (B (kOk w))
inductive R_is_value : List SD → SD → Prop
  | mk {w : List Nat} (h : Wrd w) : R_is_value [S w] (B (vOk w))
inductive R_long_whole_in : List SD → SD → Prop
  | mk {w : List Nat} (h : Wrd w) (hl : (figOf w).length ≤ 12) : R_long_whole_in [S w] (.py (oiP (longW w)))
inductive R_whole_in : List SD → SD → Prop
  | mk {w : List Nat} (h : Wrd w) : R_whole_in [S w] (.py (oiP (wholeW w)))
inductive R_are_ascending : List SD → SD → Prop
  | mk {ks : List (List Nat)} (h : ∀ w ∈ ks, Wrd w) (hl : ks.length ≤ 1000) : R_are_ascending [Ls (txts ks)] (B (ks.all kOk && chain ks))
inductive R_is_child : List SD → SD → Prop
  | n {i : Int} : R_is_child [I i] (B (inR i))
  | nw {i : Int} : R_is_child [.py (tlP (.nw i))] (B (inR i))
inductive R_is_sheet : List SD → SD → Prop
  | mk {s : Sh} (h : ShFit s) : R_is_sheet [.py (shP s)] (B (isSheetB s))
section
variable {P : Program} {w : World} {K : PySem.W.Frag} {mg : Str → Option Value} {base : Heap}
theorem ok_is_whole (T : Tx K mg) : FnG P w K mg base CX0 1 T.a_is_whole T.d_is_whole ["value"] (SpD K (pureF R_is_whole)) := by
  refine fnD_ok T.F_is_whole sc_is_whole (fun xs m Pp ⟨d, h, _⟩ => by cases h <;> rfl) (fun cdv A outer s H E rm xs m Pp ⟨d, hR, hp⟩ => ?_)
  cases hR with | @mk i =>
  exact wss_one (ws_retE (EE.is (ee_and (ee_callB (ea_cons (ee_var (i := 0) rfl) (ea_cons (ee_blt (v := .ty "int") T.m_int bo_int rfl) ea_nil)) (fun m => by walk_at "ca") T.m_isinstance bo_isinstance) (fun hk => (ee_one (ee_not (ee_callB (ea_cons (ee_var (i := 0) rfl) (ea_cons (ee_blt (v := .ty "bool") T.m_bool bo_bool rfl) ea_nil)) (fun m => by walk_at "ca") T.m_isinstance bo_isinstance))))) (B_eq (b := true) rfl)) hp)
theorem ok_is_integer (T : Tx K mg) : FnG P w K mg base CX0 2 T.a_is_integer T.d_is_integer ["value", "low", "high"] (SpD K (pureF R_is_integer)) := by
  refine fnD_ok T.F_is_integer sc_is_integer (fun xs m Pp ⟨d, h, _⟩ => by cases h <;> rfl) (fun cdv A outer s H E rm xs m Pp ⟨d, hR, hp⟩ => ?_)
  cases hR with | @mk i lo hi =>
  exact wss_one (ws_retE (EE.is (ee_and (eg_call (ok_is_whole T) (rm.mono (by decide)) T.m_is_whole T.F_is_whole.kp T.b_is_whole (ea_cons (ee_var (i := 0) rfl) ea_nil) (by walk_at "call is_whole")) (fun hk => (ee_one (we_chain (ee_var (i := 1) rfl) (ee_var (i := 0) rfl) (ee_var (i := 2) rfl) (by walk_at "cd") (by walk_at "cd") rfl).1))) (B_eq (Bool.true_and _))) hp)
theorem ok_is_tuple (T : Tx K mg) : FnG P w K mg base CX0 1 T.a_is_tuple T.d_is_tuple ["value", "low", "high"] (SpD K (pureF R_is_tuple)) := by
  refine fnD_ok T.F_is_tuple sc_is_tuple (fun xs m Pp ⟨d, h, _⟩ => by cases h <;> rfl) (fun cdv A outer s H E rm xs m Pp ⟨d, hR, hp⟩ => ?_)
  cases hR with
  | @tup l lo hi => exact wss_one (ws_retE (EE.is (ee_and (ee_callB (ea_cons (ee_var (i := 0) rfl) (ea_cons (ee_blt (v := .ty "tuple") T.m_tuple bo_tuple rfl) ea_nil)) (fun m => by walk_at "ca") T.m_isinstance bo_isinstance) (fun hk => (ee_one (we_chain (ee_var (i := 1) rfl) (ee_callB (ea_cons (ee_var (i := 0) rfl) ea_nil) (fun m => by walk_at "ca") T.m_len bo_len) (ee_var (i := 2) rfl) (by walk_at "cd") (by walk_at "cd") rfl).1))) (B_eq (Bool.true_and _))) hp)
  | @int i lo hi => exact wss_one (ws_retE (EE.is (ee_and (l := false) (ee_callB (ea_cons (ee_var (i := 0) rfl) (ea_cons (ee_blt (v := .ty "tuple") T.m_tuple bo_tuple rfl) ea_nil)) (fun m => by walk_at "ca") T.m_isinstance bo_isinstance) (fun hk => by cases hk)) (B_eq (b := false) rfl)) hp)
theorem ok_is_string (T : Tx K mg) : FnG P w K mg base CX0 1 T.a_is_string T.d_is_string ["value", "some"] (SpD K (pureF R_is_string)) := by
  refine fnD_ok T.F_is_string sc_is_string (fun xs m Pp ⟨d, h, _⟩ => by cases h <;> rfl) (fun cdv A outer s H E rm xs m Pp ⟨d, hR, hp⟩ => ?_)
  have rm0 : Rm 0 _ := rm.mono (Nat.zero_le _)
  cases hR with
  | new => exact wss_one (ws_retE (EE.is (ee_and (ee_callB (ea_cons (ee_var (i := 0) rfl) (ea_cons (ee_blt (v := .ty "str") T.m_str bo_str rfl) ea_nil)) (fun m => by walk_at "ca") T.m_isinstance bo_isinstance) (fun hk => ee_one (ee_cmp (ee_var (i := 0) rfl) (ee_var (i := 1) rfl) (cd_inTs (w := nNew) (ws := [nNew]) rm0 (by decide) (by unfold Plain; decide))))) (B_eq (b := true) (by decide))) hp)
  | @kd b => exact wss_one (ws_retE (EE.is (ee_and (ee_callB (ea_cons (ee_var (i := 0) rfl) (ea_cons (ee_blt (v := .ty "str") T.m_str bo_str rfl) ea_nil)) (fun m => by walk_at "ca") T.m_isinstance bo_isinstance) (fun hk => ee_one (ee_cmp (ee_var (i := 0) rfl) (ee_var (i := 1) rfl) (cd_inTs (w := kdS b) (ws := [nLeaf, nFork]) rm0 (by cases b <;> decide) (by unfold Plain; decide))))) (B_eq (b := true) (by cases b <;> decide))) hp)
theorem ok_are_signs (T : Tx K mg) : FnG P w K mg base CX0 1 T.a_are_signs T.d_are_signs ["value", "low", "high", "first"] (SpD K (pureF R_are_signs)) := by
  refine fnD_ok T.F_are_signs sc_are_signs (fun xs m Pp ⟨d, h, _⟩ => by cases h <;> rfl) (fun cdv A outer s H E rm xs m Pp ⟨d, hR, hp⟩ => ?_)
  cases hR with | @mk w f hw =>
  have hl := hw.l
  refine wss_cons (ws_ife (et_w (ew_or (et_not (et_val (ee_callB (ea_cons (ee_var (i := 0) rfl) (ea_cons (ee_blt (v := .ty "str") T.m_str bo_str rfl) ea_nil)) (fun m => by walk_at "ca") T.m_isinstance bo_isinstance))) (fun hk => (ew_or1 (et_not (we_chain (ee_var (i := 1) rfl) (ee_callB (ea_cons (ee_var (i := 0) rfl) ea_nil) (fun m => by walk_at "ca") T.m_len bo_len) (ee_var (i := 2) rfl) (by walk_at "cd") (by walk_at "cd") rfl).2))))) (fun h => ?_) fun h => ?_)
  · refine wss_one (ws_retE (EE.is ee_bl (B_eq (b := sgB 1 13 f w) ?_)) hp)
    unfold sgB
    have h : (false || !(decide ((1 : Int) ≤ (w.length : Int)) && decide ((w.length : Int) ≤ 13))) = true := h
    rw [Bool.false_or, Bool.not_eq_true', Bool.and_eq_false_iff, decide_eq_false_iff_not, decide_eq_false_iff_not] at h
    rw [eq_comm, Bool.and_eq_false_iff, Bool.and_eq_false_iff, decide_eq_false_iff_not, decide_eq_false_iff_not]
    omega
  · refine wss_nil (wss_one (ws_retE (EE.is (ee_callB (ea_cons (ee_lcm (w) (fun c => S [c]) (fun c => PyData.bool (!decide ([c] < [f]) && (decide (c ∈ lowS) || decide (c ∈ highS)))) [("sign", 4)] rfl sc_are_signs.nd (ei_str (ee_var (i := 0) rfl)) (by walk_at "sz") (fun a ha s H Ce cl fp => (ee_and (ee_cmp (ee_var (i := 3) rfl) (ee_var (i := 4) rfl) (by walk_at "cd")) (fun hk => (ee_one (ee_or (ee_cmp (ee_var (i := 4) rfl) (ee_gstr T.c_LOW_SIGNS) (by walk_at "cd")) (fun hk => (ee_one (ee_cmp (ee_var (i := 4) rfl) (ee_gstr T.c_HIGH_SIGNS) (by walk_at "cd"))))))))) (fun _ _ _ _ _ _ _ _ _ p => wg_name p sc_are_signs.nd) (blkOk_by (by rfl))) ea_nil) (fun m => by walk_at "ca") T.m_all bo_all) (B_eq (b := sgB 1 13 f w) ?_)) hp))
    rw [signs_all hw]
    unfold sgB
    have h : (false || !(decide ((1 : Int) ≤ (w.length : Int)) && decide ((w.length : Int) ≤ 13))) = false := h
    rw [Bool.false_or, Bool.not_eq_false', Bool.and_eq_true, decide_eq_true_eq, decide_eq_true_eq] at h
    rw [decide_eq_true (by omega : 1 ≤ w.length), decide_eq_true (by omega : w.length ≤ 13)]
    rfl
theorem ok_is_page_text (T : Tx K mg) : FnG P w K mg base CX0 1 T.a_is_page_text T.d_is_page_text ["value"] (SpD K (pureF R_is_page_text)) := by
  refine fnD_ok T.F_is_page_text sc_is_page_text (fun xs m Pp ⟨d, h, _⟩ => by cases h <;> rfl) (fun cdv A outer s H E rm xs m Pp ⟨d, hR, hp⟩ => ?_)
  cases hR with | @mk t ht hl =>
  refine wss_cons (ws_ife (et_w (ew_or (et_not (et_val (ee_callB (ea_cons (ee_var (i := 0) rfl) (ea_cons (ee_blt (v := .ty "str") T.m_str bo_str rfl) ea_nil)) (fun m => by walk_at "ca") T.m_isinstance bo_isinstance))) (fun hk => (ew_or1 (et_cmp (ee_callB (ea_cons (ee_var (i := 0) rfl) ea_nil) (fun m => by walk_at "ca") T.m_len bo_len) (ee_gint T.c_MOST_PAGE_SIGNS) (by walk_at "cd")))))) (fun h => ?_) fun h => ?_)
  · exfalso
    simp only [Bool.or_eq_true, Bool.not_eq_true', decide_eq_true_eq] at h
    rcases h with h | h
    · cases h
    · omega
  · refine wss_nil (wss_one (ws_retE (EE.is (ee_callB (ea_cons (ee_lcm (t) (fun c => S [c]) (fun c => PyData.bool (decide ([c] = [10]) || (decide (c ∈ lowS) || decide (c ∈ highS)))) [("sign", 1)] rfl sc_is_page_text.nd (ei_str (ee_var (i := 0) rfl)) (by walk_at "sz") (fun a ha s H Ce cl fp => (ee_or (ee_cmp (ee_var (i := 1) rfl) (ee_gstr T.c_FEED) (by walk_at "cd")) (fun hk => (ee_or (ee_cmp (ee_var (i := 1) rfl) (ee_gstr T.c_LOW_SIGNS) (by walk_at "cd")) (fun hk => (ee_one (ee_cmp (ee_var (i := 1) rfl) (ee_gstr T.c_HIGH_SIGNS) (by walk_at "cd")))))))) (fun _ _ _ _ _ _ _ _ _ p => wg_name p sc_is_page_text.nd) (blkOk_by (by rfl))) ea_nil) (fun m => by walk_at "ca") T.m_all bo_all) (B_eq (b := true) ?_)) hp))
    rw [List.all_eq_true]
    intro c hc
    have := al_iff.mp (ht c hc)
    rw [Bool.or_eq_true, Bool.or_eq_true, decide_eq_true_eq, decide_eq_true_eq, decide_eq_true_eq, low_mem, high_mem, List.cons.injEq]
    simp only [and_true]
    omega
theorem ok_is_key (T : Tx K mg) : FnG P w K mg base CX0 2 T.a_is_key T.d_is_key ["value"] (SpD K (pureF R_is_key)) := by
  refine fnD_ok T.F_is_key sc_is_key (fun xs m Pp ⟨d, h, _⟩ => by cases h <;> rfl) (fun cdv A outer s H E rm xs m Pp ⟨d, hR, hp⟩ => ?_)
  cases hR with | @mk w hw => exact wss_one (ws_retE (eg_call (ok_are_signs T) (rm.mono (by decide)) T.m_are_signs T.F_are_signs.kp T.b_are_signs (ea_cons (ee_var (i := 0) rfl) (ea_cons ee_int (ea_cons (ee_gint T.c_MOST_KEY_SIGNS) (ea_cons (ee_gstr T.c_FIRST_KEY_SIGN) ea_nil)))) (by walk_at "call are_signs")) hp)
theorem ok_is_value (T : Tx K mg) : FnG P w K mg base CX0 2 T.a_is_value T.d_is_value ["value"] (SpD K (pureF R_is_value)) := by
  refine fnD_ok T.F_is_value sc_is_value (fun xs m Pp ⟨d, h, _⟩ => by cases h <;> rfl) (fun cdv A outer s H E rm xs m Pp ⟨d, hR, hp⟩ => ?_)
  cases hR with | @mk w hw => exact wss_one (ws_retE (eg_call (ok_are_signs T) (rm.mono (by decide)) T.m_are_signs T.F_are_signs.kp T.b_are_signs (ea_cons (ee_var (i := 0) rfl) (ea_cons ee_int (ea_cons (ee_gint T.c_MOST_VALUE_SIGNS) (ea_cons (ee_gstr T.c_FIRST_SIGN) ea_nil)))) (by walk_at "call are_signs")) hp)
theorem ok_long_whole_in (T : Tx K mg) : FnG P w K mg base CX0 1 T.a_long_whole_in T.d_long_whole_in ["word"] (SpD K (pureF R_long_whole_in)) := by
  refine fnD_ok T.F_long_whole_in sc_long_whole_in (fun xs m Pp ⟨d, h, _⟩ => by cases h <;> rfl) (fun cdv A outer s H E rm xs m Pp ⟨d, hR, hp⟩ => ?_)
  cases hR with | @mk w hw hl12 =>
  have hl := hw.l
  have hfl := figOf_le (w := w)
  refine wss_cons (ws_setE (i := 1) sc_long_whole_in.nd (EE.is (ee_ifp (et_cmp (ee_slice (ee_var (i := 0) rfl) eo_none (eo_some ee_int) (fun m => by walk_at "sl")) (ee_gstr T.c_MINUS) (by walk_at "cd")) (fun hk => (ee_slice (ee_var (i := 0) rfl) (eo_some ee_int) eo_none (fun m => by walk_at "sl"))) (fun hk => (ee_var (i := 0) rfl))) fig_ee) ?_)
  refine wss_cons (ws_ife (k := !(decide ((1 : Int) ≤ ((figOf w).length : Int)) && decide (((figOf w).length : Int) ≤ 113)) || !figB (figOf w)) (et_w (ew_or (et_not (we_chain ee_int (ee_callB (ea_cons (ee_var (i := 1) rfl) ea_nil) (fun m => by walk_at "ca") T.m_len bo_len) (ee_gint T.c_MOST_PAGE_SIGNS) (by walk_at "cd") (by walk_at "cd") rfl).2) (fun hk => ew_or1 (et_not (et_val (ee_callB (ea_cons (ee_lcm (figOf w) (fun c => S [c]) (fun c => PyData.bool (decide (c ∈ figs))) [("sign", 2)] rfl sc_long_whole_in.nd (ei_str (ee_var (i := 1) rfl)) (by walk_at "sz") (fun a ha s H Ce cl fp => (ee_cmp (ee_var (i := 2) rfl) (ee_gstr T.c_FIGURES) (by walk_at "cd"))) (fun _ _ _ _ _ _ _ _ _ p => wg_name p sc_long_whole_in.nd) (blkOk_by (by rfl))) ea_nil) (fun m => by walk_at "ca") T.m_all bo_all)))))) (fun h => ?_) fun h => ?_)
  · refine wss_one (ws_retE (EE.is ee_non ?_) hp)
    have e : longW w = none := by
      unfold longW
      rw [if_neg]
      rintro ⟨h1, h2⟩
      rw [h2, Bool.or_eq_true, Bool.not_eq_true', Bool.and_eq_false_iff, decide_eq_false_iff_not, decide_eq_false_iff_not] at h
      rw [Bool.and_eq_true, decide_eq_true_eq, decide_eq_true_eq] at h1
      rcases h with h | h
      · omega
      · cases h
    rw [e]
    rfl
  · rw [Bool.or_eq_false_iff, Bool.not_eq_false', Bool.not_eq_false', Bool.and_eq_true, decide_eq_true_eq, decide_eq_true_eq] at h
    have hti := text_int (w := w) hl h.2 (by omega)
    have hsm := ival_small h.2 hl12
    have hw64 : w.length ≤ 640 := by
      have : w.length ≤ (figOf w).length + 1 := by
        unfold figOf
        split
        · rw [List.length_drop]; omega
        · omega
      omega
    refine wss_nil (wss_one (ws_retE (EE.is (ee_ifp (et_cmp (ee_callTy (ea_cons (ee_callTy (ea_cons (ee_var (i := 0) rfl) ea_nil) (fun m => ca_intS hti hw64) T.m_int bo_int) ea_nil) (fun m => ca_strI hsm) T.m_str bo_str) (ee_var (i := 0) rfl) cd_eqS) (fun hk => ee_callTy (ea_cons (ee_var (i := 0) rfl) ea_nil) (fun m => ca_intS hti hw64) T.m_int bo_int) (fun hk => ee_non)) ?_) hp))
    have e : longW w = if intS (ivalW w) = w then some (ivalW w) else none := by
      unfold longW
      rw [if_pos ⟨by rw [Bool.and_eq_true, decide_eq_true_eq, decide_eq_true_eq]; omega, h.2⟩]
    rw [e]
    by_cases q : intS (ivalW w) = w
    · rw [if_pos q, if_pos (decide_eq_true q)]; rfl
    · rw [if_neg q, if_neg (by simpa using q)]; rfl
theorem ok_whole_in (T : Tx K mg) : FnG P w K mg base CX0 2 T.a_whole_in T.d_whole_in ["word"] (SpD K (pureF R_whole_in)) := by
  refine fnD_ok T.F_whole_in sc_whole_in (fun xs m Pp ⟨d, h, _⟩ => by cases h <;> rfl) (fun cdv A outer s H E rm xs m Pp ⟨d, hR, hp⟩ => ?_)
  cases hR with | @mk w hw =>
  have hl := hw.l
  have hfl := figOf_le (w := w)
  refine wss_cons (ws_setE (i := 1) sc_whole_in.nd (EE.is (ee_ifp (et_cmp (ee_slice (ee_var (i := 0) rfl) eo_none (eo_some ee_int) (fun m => by walk_at "sl")) (ee_gstr T.c_MINUS) (by walk_at "cd")) (fun hk => (ee_slice (ee_var (i := 0) rfl) (eo_some ee_int) eo_none (fun m => by walk_at "sl"))) (fun hk => (ee_var (i := 0) rfl))) fig_ee) ?_)
  refine wss_one (ws_retE (ee_if (et_cmp (ee_callB (ea_cons (ee_var (i := 1) rfl) ea_nil) (fun m => by walk_at "ca") T.m_len bo_len) (ee_gint T.c_MOST_FIGURES) (by walk_at "cd")) (fun hk => ?_) (fun hk => ?_)) hp)
  · have h12 : (figOf w).length ≤ 12 := by have := of_decide_eq_true hk; omega
    refine EE.is (eg_call (ok_long_whole_in T) (rm.mono (by decide)) T.m_long_whole_in T.F_long_whole_in.kp T.b_long_whole_in (ea_cons (ee_var (i := 0) rfl) ea_nil) (.mk hw h12)) ?_
    unfold wholeW
    rw [if_pos h12]
  · have h12 : ¬ (figOf w).length ≤ 12 := by have := of_decide_eq_false hk; omega
    refine EE.is ee_non ?_
    unfold wholeW
    rw [if_neg h12]
    rfl
theorem ok_are_ascending (T : Tx K mg) : FnG P w K mg base CX0 3 T.a_are_ascending T.d_are_ascending ["keys"] (SpD K (pureF R_are_ascending)) := by
  refine fnD_ok T.F_are_ascending sc_are_ascending (fun xs m Pp ⟨d, h, _⟩ => by cases h <;> rfl) (fun cdv A outer s H E rm xs m Pp ⟨d, hR, hp⟩ => ?_)
  cases hR with | @mk ks hk hl =>
  refine wss_one (ws_retE (ee_and (ee_callB (ea_cons (ee_lcm (ks) (fun w => S w) (fun w => PyData.bool (kOk w)) [("key", 1)] rfl sc_are_ascending.nd (EI.is (ei_lst (ee_var (i := 0) rfl)) (txts_sd _)) (by walk_at "sz") (fun a ha s H Ce cl fp => (eg_call (ok_is_key T) (rm.mono (by decide)) T.m_is_key T.F_is_key.kp T.b_is_key (ea_cons (ee_var (i := 1) rfl) ea_nil) (by walk_at "call is_key"))) (fun _ _ _ _ _ _ _ _ _ p => wg_name p sc_are_ascending.nd) (blkOk_by (by rfl))) ea_nil) (fun m => by walk_at "ca") T.m_all bo_all) (fun _ => ee_one (ee_callB (ea_cons (ee_lct (List.zip ks (ks.drop 1)) (fun q => .str ⟨q.1.toArray⟩ ) ( fun q => .str ⟨q.2.toArray⟩) (fun q => PyData.bool (decide (q.1 < q.2))) [("one", 2), ("other", 3)] rfl sc_are_ascending.nd (EI.is (ei_zipL (ee_var (i := 0) rfl) (ee_slice (ee_var (i := 0) rfl) (eo_some ee_int) eo_none (fun m => by walk_at "sl")) T.m_zip) (by rw [cut_txts, zip_txts])) (by walk_at "sz") (fun a ha s H Ce cl fp => (ee_cmp (ee_var (i := 2) rfl) (ee_var (i := 3) rfl) (by walk_at "cd"))) (fun _ _ _ _ _ _ _ _ _ _ p => wg_tup (wgs_cons (wg_name (wgs_cons (wg_name (wgs_nil p) sc_are_ascending.nd)) sc_are_ascending.nd))) (blkOk_by (by rfl))) ea_nil) (fun m => by walk_at "ca") T.m_all bo_all))) hp)
theorem ok_is_child (T : Tx K mg) : FnG P w K mg base CX0 3 T.a_is_child T.d_is_child ["value"] (SpD K (pureF R_is_child)) := by
  refine fnD_ok T.F_is_child sc_is_child (fun xs m Pp ⟨d, h, _⟩ => by cases h <;> rfl) (fun cdv A outer s H E rm xs m Pp ⟨d, hR, hp⟩ => ?_)
  cases hR with
  | @n i =>
    refine wss_cons (ws_ife (k := false) (et_val (eg_call (ok_is_tuple T) (rm.mono (by decide)) T.m_is_tuple T.F_is_tuple.kp T.b_is_tuple (ea_cons (ee_var (i := 0) rfl) (ea_cons (ee_gint T.c_PAIR) (ea_cons (ee_gint T.c_PAIR) ea_nil))) (by walk_at "call is_tuple"))) (fun h => by cases h) fun _ => ?_)
    exact wss_nil (wss_one (ws_retE (eg_call (ok_is_integer T) (rm.mono (by decide)) T.m_is_integer T.F_is_integer.kp T.b_is_integer (ea_cons (ee_var (i := 0) rfl) (ea_cons ee_int (ea_cons (ee_gint T.c_MOST_PLACE) ea_nil))) (by walk_at "call is_integer")) hp))
  | @nw i =>
    refine wss_cons (ws_ife (k := true) (ET.is (et_val (eg_call (ok_is_tuple T) (rm.mono (by decide)) T.m_is_tuple T.F_is_tuple.kp T.b_is_tuple (ea_cons (ee_var (i := 0) rfl) (ea_cons (ee_gint T.c_PAIR) (ea_cons (ee_gint T.c_PAIR) ea_nil))) (by walk_at "call is_tuple"))) (by simp)) (fun _ => ?_) fun h => by cases h)
    refine wss_one (ws_retE (EE.is (ee_and (eg_call (ok_is_string T) (rm.mono (by decide)) T.m_is_string T.F_is_string.kp T.b_is_string (ea_cons (ee_sub (ee_var (i := 0) rfl) ee_int (fun m => by walk_at "sd")) (ea_cons (ee_tup (eap_cons (ee_gstr T.c_NEW) eap_nil)) ea_nil)) .new) (fun _ => ee_one (eg_call (ok_is_integer T) (rm.mono (by decide)) T.m_is_integer T.F_is_integer.kp T.b_is_integer (ea_cons (ee_sub (ee_var (i := 0) rfl) ee_int (fun m => by walk_at "sd")) (ea_cons ee_int (ea_cons (ee_gint T.c_MOST_PLACE) ea_nil))) (by walk_at "call is_integer")))) (B_eq (Bool.true_and _))) hp)
end
end K76
end W9
namespace W9
namespace K76
open PySem PySem.Spec PyProof.Rows L2
local macro_rules | `(tactic| walk_at "sz") => `(tactic| first | assumption | omega | decide | (simp only [List.length_append, List.length_map, List.length_cons, List.length_nil]; omega) | (simp only [List.length_zip, List.length_drop, List.length_map, List.length_append, List.length_cons, List.length_nil]; omega))
local macro_rules | `(tactic| walk_at "bd") => `(tactic| first | exact bd_add | exact bd_sub | exact bd_mul (by omega) | exact bd_mod (by omega) | exact bd_pow (by omega) | exact bd_powX (by decide +kernel) | exact bd_mod (by decide +kernel) | exact bd_mulB | exact bd_div (by omega) | exact bd_mulS ⟨by omega, by omega, by omega⟩ | exact bd_addS (by walk_at "sz") | exact bd_catL (by walk_at "sz"))
local macro_rules | `(tactic| walk_at "cd") => `(tactic| first | exact cd_lt | exact cd_le | exact cd_gt | exact cd_ge | exact cd_eq | exact cd_ne | exact cd_noneInF ‹Rm 0 _› | exact cd_neL ‹Rm 0 _› (by walk_at "pl") (by walk_at "pl") | exact cd_notinTs | exact cd_inTs ‹Rm 0 _› (by walk_at "pc") (by walk_at "pl") | exact cd_inS | exact cd_isN | exact cd_notN | exact cd_eqS | exact cd_neS | exact cd_ltS | exact cd_leS | exact cd_gtS)
local macro_rules | `(tactic| walk_at "md") => `(tactic| first | exact md_split (by walk_at "sz") | exact md_isdigit | exact md_joinS (by walk_at "sz"))
local macro_rules | `(tactic| walk_at "sd") => `(tactic| first | exact sd_ints (l := [2147483647, 2147483629, 2147483587, 2147483579, 2147483563]) (by omega) (by simp only [List.length_cons, List.length_nil]; omega) | exact sd_lst (at_nn (by decide) (txts_get (lns_head _))) | exact sd_lst rfl | exact sd_tup rfl)
local macro_rules | `(tactic| walk_at "sl") => `(tactic| first | exact sl_L | exact sl_S (by walk_at "sz"))
local macro_rules | `(tactic| walk_at "rg") => `(tactic| omega)
local macro_rules | `(tactic| walk_at "ca") => `(tactic| first | exact ca_isiStr | exact ca_isiII | exact ca_isiIB | exact ca_isiTT | exact ca_isiIT | exact ca_isiST | exact ca_allm rfl | exact ca_anym rfl | exact ca_lenS (by walk_at "sz") | exact ca_lenL | exact ca_lenT | exact ca_tupL | exact ca_int | exact ca_intB | exact ca_strI (by walk_at "sz") | exact ca_abs | exact ca_max2 rfl | exact ca_min2 rfl)
local macro_rules | `(tactic| walk_at "fl") => `(tactic| first | rfl | simp)
local macro_rules | `(tactic| walk_at "rep") => `(tactic| assumption)
local macro_rules | `(tactic| walk_at "zz") => `(tactic| exact Nat.le_trans (Nat.min_le_right _ _) (by simp only [List.length_map]; omega))
local macro_rules | `(tactic| walk_at "call is_sheet") => `(tactic| exact .mk (by assumption))
local macro_rules | `(tactic| walk_at "ss") => `(tactic| walk_at "sz")
local macro_rules | `(tactic| walk_at "pl") => `(tactic| assumption)
local macro_rules | `(tactic| walk_at "pc") => `(tactic| assumption)
local macro_rules | `(tactic| walk_at "call is_whole") => `(tactic| exact .mk)
local macro_rules | `(tactic| walk_at "call is_integer") => `(tactic| exact .mk)
local macro_rules | `(tactic| walk_at "call is_tuple") => `(tactic| first | exact .tup | exact .int)
local macro_rules | `(tactic| walk_at "call is_string") => `(tactic| first | exact .new | exact .kd)
local macro_rules | `(tactic| walk_at "call is_page_text") => `(tactic| exact .mk (by assumption) (by assumption))
local macro_rules | `(tactic| walk_at "call is_child") => `(tactic| first | exact .n | exact .nw)
local macro_rules | `(tactic| walk_at "call sheet_of") => `(tactic| exact .mk (by assumption) (by assumption))
local macro_rules | `(tactic| walk_at "call sheet_in") => `(tactic| exact .mk (by assumption) (by assumption))
local macro_rules | `(tactic| walk_at "call _law_map_sheet") => `(tactic| exact .mk (by assumption) (by assumption))
local macro_rules | `(tactic| walk_at "call _law_read") => `(tactic| exact .mk (by assumption) (by assumption))
local macro_rules | `(tactic| walk_at "call _law_is_specified") => `(tactic| exact .mk (by assumption) (by assumption))
local macro_rules | `(tactic| walk_at "call sheet_text") => `(tactic| exact .mk (by assumption) (by assumption) (by assumption) (by assumption))
local macro_rules | `(tactic| walk_at "call _law_text") => `(tactic| exact .mk (by assumption) (by assumption) (by assumption) (by assumption))
local macro_rules | `(tactic| walk_at "call are_signs") => `(tactic| exact .mk (by assumption))
local macro_rules | `(tactic| walk_at "call is_key") => `(tactic| first | exact .mk (by assumption) | exact .mk (by solve_by_elim) | exact .mk (by walk_at "wd"))
local macro_rules | `(tactic| walk_at "call is_value") => `(tactic| first | exact .mk (by assumption) | exact .mk (by solve_by_elim) | exact .mk (by walk_at "wd"))
local macro_rules | `(tactic| walk_at "call long_whole_in") => `(tactic| exact .mk (by assumption))
local macro_rules | `(tactic| walk_at "call whole_in") => `(tactic| first | exact .mk (by assumption) | exact .mk (by solve_by_elim) | exact .mk (by walk_at "wd"))
local macro_rules | `(tactic| walk_at "call _law_map_is_key") => `(tactic| first | exact .mk (by assumption) | exact .mk (by solve_by_elim) | exact .mk (by walk_at "wd"))
local macro_rules | `(tactic| walk_at "call _law_map_is_value") => `(tactic| first | exact .mk (by assumption) | exact .mk (by solve_by_elim) | exact .mk (by walk_at "wd"))
local macro_rules | `(tactic| walk_at "call _law_map_number") => `(tactic| first | exact .mk (by assumption) | exact .mk (by solve_by_elim) | exact .mk (by walk_at "wd"))
local macro_rules | `(tactic| walk_at "call _law_cells") => `(tactic| exact .mk)

inductive R_sheet_of : List SD → SD → Prop
  | mk {t : List Nat} (h : OkT t) (hl : t.length ≤ 113) : R_sheet_of [S t] (.py (shO (readP t)))
inductive R_sheet_in : List SD → SD → Prop
  | mk {t : List Nat} (h : OkT t) (hl : t.length ≤ 113) : R_sheet_in [S t] (.py (shO (readP t)))
section
variable {P : Program} {w : World} {K : PySem.W.Frag} {mg : Str → Option Value} {base : Heap}
theorem ok_is_sheet (T : Tx K mg) : FnG P w K mg base CX0 4 T.a_is_sheet T.d_is_sheet ["value"] (SpD K (pureF R_is_sheet)) := by
  refine fnD_ok T.F_is_sheet sc_is_sheet (fun xs m Pp ⟨d, h, _⟩ => by cases h <;> rfl) (fun cdv A outer s H E rm xs m Pp ⟨d, hR, hp⟩ => ?_)
  cases hR with | @mk s hs =>
  obtain ⟨leaf, es⟩ := s
  have hl := hs.l
  dsimp only at hl
  refine wss_cons (ws_ife (k := false) (ET.is (et_w (ew_or (et_not (et_val (eg_call (ok_is_tuple T) (rm.mono (by decide)) T.m_is_tuple T.F_is_tuple.kp T.b_is_tuple (ea_cons (ee_var (i := 0) rfl) (ea_cons (ee_gint T.c_PAIR) (ea_cons (ee_gint T.c_PAIR) ea_nil))) (by walk_at "call is_tuple")))) (fun hk => (ew_or1 (et_not (et_val (eg_call (ok_is_string T) (rm.mono (by decide)) T.m_is_string T.F_is_string.kp T.b_is_string (ea_cons (ee_sub (ee_var (i := 0) rfl) ee_int (fun m => by walk_at "sd")) (ea_cons (ee_tup (eap_cons (ee_gstr T.c_LEAF) (eap_cons (ee_gstr T.c_FORK) eap_nil))) ea_nil)) (by walk_at "call is_string")))))))) (by simp)) (fun h => by cases h) fun _ => wss_nil ?_)
  refine wss_cons (ws_setE (i := 1) sc_is_sheet.nd (EE.is (ee_ifp (et_cmp (ee_sub (ee_var (i := 0) rfl) ee_int (fun m => by walk_at "sd")) (ee_gstr T.c_LEAF) (by walk_at "cd")) (fun hk => ee_int) (fun hk => (ee_gint T.c_FEWEST))) (show _ = I ((lowOf leaf : Nat) : Int) from by cases leaf <;> rfl)) ?_)
  refine wss_cons (ws_ife (k := !(decide ((lowOf leaf : Int) ≤ ((es.map entP).length : Int)) && decide (((es.map entP).length : Int) ≤ 4)) || !(es.all fun (q : Ent) => (decide ((2 : Int) ≤ (([PyData.str ⟨q.1.toArray⟩, tlP q.2] : List PyData).length : Int)) && decide ((([PyData.str ⟨q.1.toArray⟩, tlP q.2] : List PyData).length : Int) ≤ 2)))) (et_w (ew_or (et_not (et_val (eg_call (ok_is_tuple T) (rm.mono (by decide)) T.m_is_tuple T.F_is_tuple.kp T.b_is_tuple (ea_cons (ee_sub (ee_var (i := 0) rfl) ee_int (fun m => by walk_at "sd")) (ea_cons (ee_var (i := 1) rfl) (ea_cons (ee_gint T.c_MOST) ea_nil))) (by walk_at "call is_tuple")))) (fun hk => ew_or1 (et_not (et_val (ee_callB (ea_cons (ee_lcm (es) (fun q => .py (entP q)) (fun q => PyData.bool (decide ((2 : Int) ≤ (([PyData.str ⟨q.1.toArray⟩, tlP q.2] : List PyData).length : Int)) && decide ((([PyData.str ⟨q.1.toArray⟩, tlP q.2] : List PyData).length : Int) ≤ 2))) [("entry", 2)] rfl sc_is_sheet.nd (EI.is (ei_tup (ee_sub (ee_var (i := 0) rfl) ee_int (fun m => by walk_at "sd"))) (ent_sd _)) (by walk_at "sz") (fun a ha s H Ce cl fp => (eg_call (ok_is_tuple T) (rm.mono (by decide)) T.m_is_tuple T.F_is_tuple.kp T.b_is_tuple (ea_cons (ee_var (i := 2) rfl) (ea_cons (ee_gint T.c_PAIR) (ea_cons (ee_gint T.c_PAIR) ea_nil))) (by walk_at "call is_tuple"))) (fun _ _ _ _ _ _ _ _ _ p => wg_name p sc_is_sheet.nd) (blkOk_by (by rfl))) ea_nil) (fun m => by walk_at "ca") T.m_all bo_all)))))) (fun h => ?_) fun h => wss_nil ?_)
  · have e : (es.all fun (q : Ent) => (decide ((2 : Int) ≤ (([PyData.str ⟨q.1.toArray⟩, tlP q.2] : List PyData).length : Int)) && decide ((([PyData.str ⟨q.1.toArray⟩, tlP q.2] : List PyData).length : Int) ≤ 2))) = true := by simp
    rw [e, Bool.not_true, Bool.or_false, Bool.not_eq_true'] at h
    exact wss_one (ws_retE (EE.is ee_bl (B_eq (sheet_len (s := ⟨leaf, es⟩) h).symm)) hp)
  · rw [Bool.or_eq_false_iff, Bool.not_eq_false'] at h
    refine wss_cons (ws_ife (k := !((es.map (·.1)).all kOk && chain (es.map (·.1)))) (et_not (et_val (eg_call (ok_are_ascending T) (rm.mono (by decide)) T.m_are_ascending T.F_are_ascending.kp T.b_are_ascending (ea_cons (EE.is (ee_lcm (es) (fun q => .py (entP q)) (fun q => .str ⟨q.1.toArray⟩) [("entry", 2)] rfl sc_is_sheet.nd (EI.is (ei_tup (ee_sub (ee_var (i := 0) rfl) ee_int (fun m => by walk_at "sd"))) (ent_sd _)) (by walk_at "sz") (fun a ha s H Ce cl fp => (ee_sub (ee_var (i := 2) rfl) ee_int (fun m => by walk_at "sd"))) (fun _ _ _ _ _ _ _ _ _ p => wg_name p sc_is_sheet.nd) (blkOk_by (by rfl))) (show Ls _ = Ls (txts (es.map (·.1))) by rw [ent_fst])) ea_nil) (.mk (fun w hw => by obtain ⟨q, hq, rfl⟩ := List.mem_map.mp hw; exact (hs.k q hq).1) (by rw [List.length_map]; exact hl))))) (fun h2 => ?_) fun h2 => wss_nil ?_)
    · rw [Bool.not_eq_true'] at h2
      exact wss_one (ws_retE (EE.is ee_bl (B_eq (sheet_asc (s := ⟨leaf, es⟩) h2).symm)) hp)
    · rw [Bool.not_eq_false'] at h2
      refine wss_one (ws_retE (EE.is (ee_callB (ea_cons (ee_lcm (es) (fun q => .py (entP q)) (fun q => PyData.bool (tlOk q.2)) [("entry", 2)] rfl sc_is_sheet.nd (EI.is (ei_tup (ee_sub (ee_var (i := 0) rfl) ee_int (fun m => by walk_at "sd"))) (ent_sd _)) (by walk_at "sz") (fun a ha s H Ce cl fp => (by
        have hq := (hs.k a ha).2
        obtain ⟨aw, at_⟩ := a
        cases at_ with
        | v w =>
          obtain ⟨e1, e2⟩ := hq
          have e1 : leaf = true := e1
          subst e1
          exact ee_if (k := true) (et_cmp (ee_sub (ee_var (i := 0) rfl) ee_int (fun m => by walk_at "sd")) (ee_gstr T.c_LEAF) (by walk_at "cd")) (fun _ => (eg_call (ok_is_value T) (rm.mono (by decide)) T.m_is_value T.F_is_value.kp T.b_is_value (ea_cons (ee_sub (ee_var (i := 2) rfl) ee_int (fun m => by walk_at "sd")) ea_nil) (by walk_at "call is_value"))) (fun z => by cases z)
        | n i =>
          obtain ⟨e1, e2⟩ := hq
          have e1 : leaf = false := e1
          subst e1
          exact ee_if (k := false) (et_cmp (ee_sub (ee_var (i := 0) rfl) ee_int (fun m => by walk_at "sd")) (ee_gstr T.c_LEAF) (by walk_at "cd")) (fun z => by cases z) (fun _ => (eg_call (ok_is_child T) (rm.mono (by decide)) T.m_is_child T.F_is_child.kp T.b_is_child (ea_cons (ee_sub (ee_var (i := 2) rfl) ee_int (fun m => by walk_at "sd")) ea_nil) (by walk_at "call is_child")))
        | nw i =>
          obtain ⟨e1, e2⟩ := hq
          have e1 : leaf = false := e1
          subst e1
          exact ee_if (k := false) (et_cmp (ee_sub (ee_var (i := 0) rfl) ee_int (fun m => by walk_at "sd")) (ee_gstr T.c_LEAF) (by walk_at "cd")) (fun z => by cases z) (fun _ => (eg_call (ok_is_child T) (rm.mono (by decide)) T.m_is_child T.F_is_child.kp T.b_is_child (ea_cons (ee_sub (ee_var (i := 2) rfl) ee_int (fun m => by walk_at "sd")) ea_nil) (by walk_at "call is_child"))))) (fun _ _ _ _ _ _ _ _ _ p => wg_name p sc_is_sheet.nd) (blkOk_by (by rfl))) ea_nil) (fun m => by walk_at "ca") T.m_all bo_all) (B_eq (sheet_rest (s := ⟨leaf, es⟩) h.1 h2).symm)) hp)
theorem ok_sheet_of (T : Tx K mg) : FnG P w K mg base CX0 5 T.a_sheet_of T.d_sheet_of ["text"] (SpD K (pureF R_sheet_of)) := by
  refine fnD_ok T.F_sheet_of sc_sheet_of (fun xs m Pp ⟨d, h, _⟩ => by cases h <;> rfl) (fun cdv A outer s H E rm xs m Pp ⟨d, hR, hp⟩ => ?_)
  cases hR with | @mk t ht hl =>
  have hw := lns_wrd ht hl
  have hkw := keys_wrd ht hl
  have htw := told_wrd ht hl
  have hf := lns_few (t := t) hl
  have hkf := keys_few (t := t) hl
  have htf := told_few (t := t) hl
  refine wss_cons (ws_setE (i := 1) sc_sheet_of.nd (ee_meth PySem.F.plainAttrs_str PySem.F.slot_str_split PySem.F.type_str_split (ee_var (i := 0) rfl) (ea_cons (ee_gstr T.c_FEED) ea_nil) (fun m => by walk_at "md")) ?_)
  refine wss_cons (ws_ife (k := !headOk t) (ET.is (et_w (ew_or (et_cmp (ee_sub (ee_var (i := 1) rfl) ee_int (fun m => sd_lst (at_nn (by decide) (txts_get (lns_head t))))) (ee_tup (eap_cons (ee_gstr T.c_LEAF_WORD) (eap_cons (ee_gstr T.c_FORK_WORD) eap_nil))) (cd_notinTs (ws := [[108], [102]]))) (fun hk => ew_or1 (et_cmp (ee_bin (ee_callB (ea_cons (ee_var (i := 1) rfl) ea_nil) (fun m => by walk_at "ca") T.m_len bo_len) (ee_gint T.c_PAIR) (by walk_at "bd")) ee_int (by walk_at "cd"))))) ?_) (fun h => ?_) fun h => wss_nil ?_)
  · unfold headOk
    rw [List.length_map]
    have e1 : decide (((lns t).length : Int) % 2 = 0) = decide ((lns t).length % 2 = 0) := by
      by_cases q : (lns t).length % 2 = 0
      · rw [decide_eq_true q, decide_eq_true (by omega)]
      · rw [decide_eq_false q, decide_eq_false (by omega)]
    have e2 : decide (head0 t ∈ [[108], [102]]) = (decide (head0 t = [108]) || decide (head0 t = [102])) := by simp [List.mem_cons]
    rw [e1, e2]
    cases (decide (head0 t = [108]) || decide (head0 t = [102])) <;> cases decide ((lns t).length % 2 = 0) <;> rfl
  · rw [Bool.not_eq_true'] at h
    refine wss_one (ws_retE (EE.is ee_non ?_) hp)
    unfold readP
    rw [if_neg (by rw [h]; exact Bool.false_ne_true)]
    rfl
  · rw [Bool.not_eq_false'] at h
    have hh : head0 t = [108] ∨ head0 t = [102] := by
      unfold headOk at h
      rw [Bool.and_eq_true, Bool.or_eq_true, decide_eq_true_eq, decide_eq_true_eq] at h
      exact h.1
    have hkt := kt_len h
    refine wss_cons (ws_setE (i := 2) sc_sheet_of.nd (EE.is (ee_alt (b := 2) (ee_var (i := 1) rfl) (eo_some (ee_gint T.c_PAIR)) (eo_some (ee_gint T.c_PAIR))) (show _ = Ls (txts (toldOf t)) by rw [alt_txts]; rfl)) ?_)
    by_cases hfk : head0 t = [102]
    · refine wss_cons (ws_ife (k := true) (ET.is (et_cmp (ee_sub (ee_var (i := 1) rfl) ee_int (fun m => sd_lst (at_nn (by decide) (txts_get (lns_head t))))) (ee_gstr T.c_FORK_WORD) cd_eqS) (decide_eq_true hfk)) (fun _ => ?_) fun z => by cases z)
      have rm0 : Rm 0 _ := rm.mono (Nat.zero_le _)
      refine wss_cons (ws_setLcm (i := 2) (toldOf t) (fun w => S w) (fun w => oiP (wholeW w)) [("word", 4)] rfl sc_sheet_of.nd (EI.is (ei_lst (ee_var (i := 2) rfl)) (txts_sd _)) (by walk_at "sz") (fun a ha s H Ce cl fp => (eg_call (ok_whole_in T) (rm.mono (by decide)) T.m_whole_in T.F_whole_in.kp T.b_whole_in (ea_cons (ee_var (i := 4) rfl) ea_nil) (by walk_at "call whole_in"))) (fun _ _ _ _ _ _ _ _ _ p => wg_name p sc_sheet_of.nd) (blkOk_by (by rfl)) ?_)
      refine wss_one (ws_ife (k := ((toldOf t).map wholeW).any (·.isNone)) (et_cmp ee_non (ee_var (i := 2) rfl) (by walk_at "cd")) (fun hn => ?_) fun hn => wss_nil ?_)
      · refine wss_one (ws_retE (EE.is ee_non ?_) hp)
        unfold readP
        rw [if_pos h, if_pos hfk, if_pos hn]
        rfl
      · have hfit := fork_fit ht hl
        refine wss_cons (ws_setE (i := 3) sc_sheet_of.nd (EE.is (ee_tup (eap_cons (ee_ifp (et_cmp (ee_sub (ee_var (i := 1) rfl) ee_int (fun m => by walk_at "sd")) (ee_gstr T.c_LEAF_WORD) (by walk_at "cd")) (fun hk => (ee_gstr T.c_LEAF)) (fun hk => (ee_gstr T.c_FORK))) (eap_cons (ee_callTy (ea_cons (ee_listZip (ee_alt (b := 1) (ee_var (i := 1) rfl) (eo_some ee_int) (eo_some (ee_gint T.c_PAIR))) (ee_var (i := 2) rfl) (by walk_at "zz") T.m_list T.m_zip) ea_nil) (fun m => by walk_at "ca") T.m_tuple bo_tuple) eap_nil))) (show _ = SD.py (shP (forkSh t ((toldOf t).filterMap wholeW))) from ?_)) ?_)
        · rw [alt_txts, oi_some hn]
          rw [if_neg (by rw [decide_eq_true_eq, hfk]; decide)]
          show Tp [_, PyData.tuple (zipP (txts (keysOf t)) _)] = _
          rw [zipP_fork]
          rfl
        · refine wss_one (ws_retE (EE.is (ee_ifp (et_val (eg_call (ok_is_sheet T) (rm.mono (by decide)) T.m_is_sheet T.F_is_sheet.kp T.b_is_sheet (ea_cons (ee_var (i := 3) rfl) ea_nil) (by walk_at "call is_sheet"))) (fun hk => (ee_var (i := 3) rfl)) (fun hk => ee_non)) ?_) hp)
          unfold readP
          rw [if_pos h, if_pos hfk, if_neg (show ¬ ((toldOf t).map wholeW).any (·.isNone) = true by rw [hn]; exact Bool.false_ne_true)]
          unfold pick
          by_cases q : isSheetB (forkSh t ((toldOf t).filterMap wholeW)) = true
          · rw [if_pos q, if_pos q]; rfl
          · rw [if_neg q, if_neg q]; rfl
    · have hlf : head0 t = [108] := hh.resolve_right hfk
      refine wss_cons (ws_ife (k := false) (ET.is (et_cmp (ee_sub (ee_var (i := 1) rfl) ee_int (fun m => sd_lst (at_nn (by decide) (txts_get (lns_head t))))) (ee_gstr T.c_FORK_WORD) cd_eqS) (decide_eq_false hfk)) (fun z => by cases z) fun _ => wss_nil ?_)
      have hfit := leaf_fit ht hl
      refine wss_cons (ws_setE (i := 3) sc_sheet_of.nd (EE.is (ee_tup (eap_cons (ee_ifp (et_cmp (ee_sub (ee_var (i := 1) rfl) ee_int (fun m => by walk_at "sd")) (ee_gstr T.c_LEAF_WORD) (by walk_at "cd")) (fun hk => (ee_gstr T.c_LEAF)) (fun hk => (ee_gstr T.c_FORK))) (eap_cons (ee_callTy (ea_cons (ee_listZip (ee_alt (b := 1) (ee_var (i := 1) rfl) (eo_some ee_int) (eo_some (ee_gint T.c_PAIR))) (ee_var (i := 2) rfl) (by walk_at "zz") T.m_list T.m_zip) ea_nil) (fun m => by walk_at "ca") T.m_tuple bo_tuple) eap_nil))) (show _ = SD.py (shP (leafSh t)) from ?_)) ?_)
      · rw [alt_txts, if_pos (decide_eq_true hlf)]
        show Tp [_, PyData.tuple (zipP (txts (keysOf t)) _)] = _
        rw [zipP_leaf]
        rfl
      · refine wss_one (ws_retE (EE.is (ee_ifp (et_val (eg_call (ok_is_sheet T) (rm.mono (by decide)) T.m_is_sheet T.F_is_sheet.kp T.b_is_sheet (ea_cons (ee_var (i := 3) rfl) ea_nil) (by walk_at "call is_sheet"))) (fun hk => (ee_var (i := 3) rfl)) (fun hk => ee_non)) ?_) hp)
        unfold readP
        rw [if_pos h, if_neg hfk]
        unfold pick
        by_cases q : isSheetB (leafSh t) = true
        · rw [if_pos q, if_pos q]; rfl
        · rw [if_neg q, if_neg q]; rfl
theorem ok_sheet_in (T : Tx K mg) : FnG P w K mg base CX0 6 T.a_sheet_in T.d_sheet_in ["text"] (SpD K (pureF R_sheet_in)) := by
  refine fnD_ok T.F_sheet_in sc_sheet_in (fun xs m Pp ⟨d, h, _⟩ => by cases h <;> rfl) (fun cdv A outer s H E rm xs m Pp ⟨d, hR, hp⟩ => ?_)
  cases hR with | @mk t ht hl =>
  refine wss_cons (ws_ife (k := false) (et_not (et_val (eg_call (ok_is_page_text T) (rm.mono (by decide)) T.m_is_page_text T.F_is_page_text.kp T.b_is_page_text (ea_cons (ee_var (i := 0) rfl) ea_nil) (by walk_at "call is_page_text")))) (fun z => by cases z) fun _ => wss_nil ?_)
  exact wss_one (ws_retE (eg_call (ok_sheet_of T) (rm.mono (by decide)) T.m_sheet_of T.F_sheet_of.kp T.b_sheet_of (ea_cons (ee_var (i := 0) rfl) ea_nil) (by walk_at "call sheet_of")) hp)
end
end K76
end W9
namespace W9
namespace K76
open PySem PySem.Spec PyProof.Rows L2
local macro_rules | `(tactic| walk_at "sz") => `(tactic| first | assumption | omega | decide | (simp only [List.length_append, List.length_map, List.length_cons, List.length_nil]; omega) | (simp only [List.length_zip, List.length_drop, List.length_map, List.length_append, List.length_cons, List.length_nil]; omega))
local macro_rules | `(tactic| walk_at "bd") => `(tactic| first | exact bd_add | exact bd_sub | exact bd_mul (by omega) | exact bd_mod (by omega) | exact bd_pow (by omega) | exact bd_powX (by decide +kernel) | exact bd_mod (by decide +kernel) | exact bd_mulB | exact bd_div (by omega) | exact bd_mulS ⟨by omega, by omega, by omega⟩ | exact bd_addS (by walk_at "sz") | exact bd_catL (by walk_at "sz"))
local macro_rules | `(tactic| walk_at "cd") => `(tactic| first | exact cd_lt | exact cd_le | exact cd_gt | exact cd_ge | exact cd_eq | exact cd_ne | exact cd_noneInF ‹Rm 0 _› | exact cd_neL ‹Rm 0 _› (by walk_at "pl") (by walk_at "pl") | exact cd_notinTs | exact cd_inTs ‹Rm 0 _› (by walk_at "pc") (by walk_at "pl") | exact cd_inS | exact cd_isN | exact cd_notN | exact cd_eqS | exact cd_neS | exact cd_ltS | exact cd_leS | exact cd_gtS)
local macro_rules | `(tactic| walk_at "md") => `(tactic| first | exact md_split (by walk_at "sz") | exact md_isdigit | exact md_joinS (by walk_at "sz"))
local macro_rules | `(tactic| walk_at "sd") => `(tactic| first | exact sd_ints (l := [2147483647, 2147483629, 2147483587, 2147483579, 2147483563]) (by omega) (by simp only [List.length_cons, List.length_nil]; omega) | exact sd_lst (at_nn (by decide) (txts_get (lns_head _))) | exact sd_lst rfl | exact sd_tup rfl)
local macro_rules | `(tactic| walk_at "sl") => `(tactic| first | exact sl_L | exact sl_S (by walk_at "sz"))
local macro_rules | `(tactic| walk_at "rg") => `(tactic| omega)
local macro_rules | `(tactic| walk_at "ca") => `(tactic| first | exact ca_isiStr | exact ca_isiII | exact ca_isiIB | exact ca_isiTT | exact ca_isiIT | exact ca_isiST | exact ca_allm rfl | exact ca_anym rfl | exact ca_lenS (by walk_at "sz") | exact ca_lenL | exact ca_lenT | exact ca_tupL | exact ca_int | exact ca_intB | exact ca_strI (by walk_at "sz") | exact ca_abs | exact ca_max2 rfl | exact ca_min2 rfl)
local macro_rules | `(tactic| walk_at "fl") => `(tactic| first | rfl | simp)
local macro_rules | `(tactic| walk_at "rep") => `(tactic| assumption)
local macro_rules | `(tactic| walk_at "zz") => `(tactic| exact Nat.le_trans (Nat.min_le_right _ _) (by simp only [List.length_map]; omega))
local macro_rules | `(tactic| walk_at "call is_sheet") => `(tactic| exact .mk (by assumption))
local macro_rules | `(tactic| walk_at "ss") => `(tactic| walk_at "sz")
local macro_rules | `(tactic| walk_at "pl") => `(tactic| assumption)
local macro_rules | `(tactic| walk_at "pc") => `(tactic| assumption)
local macro_rules | `(tactic| walk_at "call is_whole") => `(tactic| exact .mk)
local macro_rules | `(tactic| walk_at "call is_integer") => `(tactic| exact .mk)
local macro_rules | `(tactic| walk_at "call is_tuple") => `(tactic| first | exact .tup | exact .int)
local macro_rules | `(tactic| walk_at "call is_string") => `(tactic| first | exact .new | exact .kd)
local macro_rules | `(tactic| walk_at "call is_page_text") => `(tactic| exact .mk (by assumption) (by assumption))
local macro_rules | `(tactic| walk_at "call is_child") => `(tactic| first | exact .n | exact .nw)
local macro_rules | `(tactic| walk_at "call sheet_of") => `(tactic| exact .mk (by assumption) (by assumption))
local macro_rules | `(tactic| walk_at "call sheet_in") => `(tactic| exact .mk (by assumption) (by assumption))
local macro_rules | `(tactic| walk_at "call _law_map_sheet") => `(tactic| exact .mk (by assumption) (by assumption))
local macro_rules | `(tactic| walk_at "call _law_read") => `(tactic| exact .mk (by assumption) (by assumption))
local macro_rules | `(tactic| walk_at "call _law_is_specified") => `(tactic| exact .mk (by assumption) (by assumption))
local macro_rules | `(tactic| walk_at "call sheet_text") => `(tactic| exact .mk (by assumption) (by assumption) (by assumption) (by assumption))
local macro_rules | `(tactic| walk_at "call _law_text") => `(tactic| exact .mk (by assumption) (by assumption) (by assumption) (by assumption))
local macro_rules | `(tactic| walk_at "call are_signs") => `(tactic| exact .mk (by assumption))
local macro_rules | `(tactic| walk_at "call is_key") => `(tactic| first | exact .mk (by assumption) | exact .mk (by solve_by_elim) | exact .mk (by walk_at "wd"))
local macro_rules | `(tactic| walk_at "call is_value") => `(tactic| first | exact .mk (by assumption) | exact .mk (by solve_by_elim) | exact .mk (by walk_at "wd"))
local macro_rules | `(tactic| walk_at "call long_whole_in") => `(tactic| exact .mk (by assumption))
local macro_rules | `(tactic| walk_at "call whole_in") => `(tactic| first | exact .mk (by assumption) | exact .mk (by solve_by_elim) | exact .mk (by walk_at "wd"))
local macro_rules | `(tactic| walk_at "call _law_map_is_key") => `(tactic| first | exact .mk (by assumption) | exact .mk (by solve_by_elim) | exact .mk (by walk_at "wd"))
local macro_rules | `(tactic| walk_at "call _law_map_is_value") => `(tactic| first | exact .mk (by assumption) | exact .mk (by solve_by_elim) | exact .mk (by walk_at "wd"))
local macro_rules | `(tactic| walk_at "call _law_map_number") => `(tactic| first | exact .mk (by assumption) | exact .mk (by solve_by_elim) | exact .mk (by walk_at "wd"))
local macro_rules | `(tactic| walk_at "call _law_cells") => `(tactic| exact .mk)

inductive R_sheet_text : List SD → SD → Prop
  | mk {s : Sh} {ps : List Int} (h : ShFit s) (h2 : ShIn s ps) : R_sheet_text [.py (shP s), Tp (ps.map .int)] (S (textS s ps))
inductive R_written : List SD → SD → Prop
  | mk {s : Sh} {ps : List Int} (h : ShFit s) (h2 : ShIn s ps) (h3 : isSheetB s = true) (h4 : ps.all inR = true) (hl : ps.length ≤ 1000) : R_written [.py (shP s), Tp (ps.map .int)] (S (textS s ps))
inductive R__law_text : List SD → SD → Prop
  | mk {s : Sh} {ps : List Int} (h : ShFit s) (h2 : ShIn s ps) : R__law_text [.py (shP s), Tp (ps.map .int)] (S (textS s ps))
section
variable {P : Program} {w : World} {K : PySem.W.Frag} {mg : Str → Option Value} {base : Heap}
theorem ok_sheet_text (T : Tx K mg) : FnG P w K mg base CX0 1 T.a_sheet_text T.d_sheet_text ["sheet", "places"] (SpD K (pureF R_sheet_text)) := by
  refine fnD_ok T.F_sheet_text sc_sheet_text (fun xs m Pp ⟨d, h, _⟩ => by cases h <;> rfl) (fun cdv A outer s H E rm xs m Pp ⟨d, hR, hp⟩ => ?_)
  cases hR with | @mk s ps hs hi =>
  obtain ⟨leaf, es⟩ := s
  have hww := words_wrd hs hi
  have hl4 := hi.l
  dsimp only at hl4
  refine wss_cons (ws_set (i := 2) sc_sheet_text.nd (we_lstN (EA.to (ea_cons (ee_ifp (et_cmp (ee_sub (ee_var (i := 0) rfl) ee_int (fun m => by walk_at "sd")) (ee_gstr T.c_LEAF) (by walk_at "cd")) (fun hk => (ee_gstr T.c_LEAF_WORD)) (fun hk => (ee_gstr T.c_FORK_WORD))) ea_nil) ⟨[_], rfl, by simp, fun q hq => ?_⟩)))
  refine wss_cons (ws_for (js := [3, 4]) (((ei_tup (ee_sub (ee_var (i := 0) rfl) ee_int (fun m => by walk_at "sd")))).to ⟨fun i ds' m' => ∃ (y1 y2 : Option SD), ds' = [some (.py (shP ⟨leaf, es⟩)), some (Tp (ps.map .int)), some (.raw (.ref q)), y1, y2] ∧ m' = (q, .dl (txts ((if leaf = true then [108] else [102]) :: bodyS (es.take i) ps))) :: m, ⟨none, none, rfl, ?_⟩, ?_, ?_⟩))
  · cases leaf <;> rfl
  · rintro i x ds' m' hx ⟨y1, y2, rfl, rfl⟩
    rw [ent_sd] at hx
    obtain ⟨⟨kw, tl⟩, he, rfl⟩ := map_get hx
    have hmem := List.mem_of_getElem? he
    obtain ⟨hk, hf⟩ := hs.k _ hmem
    have hin := hi.t _ hmem
    have hpp := hi.p
    have hlt := get_lt he
    have hbl := body_len (es.take i) ps
    rw [List.length_take] at hbl
    have fin : ∀ ds2 : DE, (∃ (y1 y2 : Option SD), ds2 = [some (.py (shP ⟨leaf, es⟩)), some (Tp (ps.map .int)), some (.raw (.ref q)), y1, y2]) → ∃ (y1 y2 : Option SD), ds2 = [some (.py (shP ⟨leaf, es⟩)), some (Tp (ps.map .int)), some (.raw (.ref q)), y1, y2] ∧ mset ((q, OV.dl (txts ((if leaf = true then [108] else [102]) :: bodyS (es.take i) ps))) :: m) q (.dl (txts ((if leaf = true then [108] else [102]) :: bodyS (es.take i) ps) ++ [.str ⟨kw.toArray⟩, .str ⟨(tlW ps tl).toArray⟩])) = (q, .dl (txts ((if leaf = true then [108] else [102]) :: bodyS (es.take (i + 1)) ps))) :: m := fun ds2 ⟨z1, z2, e⟩ => by
      refine ⟨z1, z2, e, ?_⟩
      rw [mset_head hq, take_snoc he, body_snoc]
      unfold txts
      rw [List.map_cons, List.map_cons, List.map_append]
      rfl
    have hz2 : (txts ((if leaf = true then [108] else [102]) :: bodyS (es.take i) ps)).length + ([PyData.str ⟨kw.toArray⟩, .str ⟨(tlW ps tl).toArray⟩] : List PyData).length ≤ 1000000 := by
      simp only [List.length_map, List.length_cons, List.length_nil]
      omega
    refine wg_tup (wgs_cons (wg_name (wgs_cons (wg_name (wgs_nil ?_) sc_sheet_text.nd)) sc_sheet_text.nd))
    cases tl with
    | v w =>
      obtain ⟨e1, e2⟩ := hf
      have e1 : leaf = true := e1
      subst e1
      refine wss_cons (ws_ife (k := false) (ET.is (et_cmp (ee_sub (ee_var (i := 0) rfl) ee_int (fun m => by walk_at "sd")) (ee_gstr T.c_FORK) (by walk_at "cd")) rfl) (fun z => by cases z) fun _ => wss_nil ?_)
      exact wss_one (ws_ext (ee_var (i := 2) rfl) List.mem_cons_self (eap_cons (ee_var (i := 3) rfl) (eap_cons (ee_var (i := 4) rfl) eap_nil)) hz2 (fin _ ⟨_, _, rfl⟩))
    | n j =>
      obtain ⟨e1, e2⟩ := hf
      have e1 : leaf = false := e1
      subst e1
      refine wss_cons (ws_ife (k := true) (ET.is (et_cmp (ee_sub (ee_var (i := 0) rfl) ee_int (fun m => by walk_at "sd")) (ee_gstr T.c_FORK) (by walk_at "cd")) rfl) (fun _ => ?_) fun z => by cases z)
      refine wss_one (ws_setE (i := 4) sc_sheet_text.nd (ee_callTy (ea_cons (ee_if (k := false) (et_val (ee_callB (ea_cons (ee_var (i := 4) rfl) (ea_cons (ee_blt (v := .ty "tuple") T.m_tuple bo_tuple rfl) ea_nil)) (fun m => by walk_at "ca") T.m_isinstance bo_isinstance)) (fun z => by cases z) (fun _ => (ee_var (i := 4) rfl))) ea_nil) (fun m => ca_strI e2) T.m_str bo_str) ?_)
      exact wss_one (ws_ext (ee_var (i := 2) rfl) List.mem_cons_self (eap_cons (ee_var (i := 3) rfl) (eap_cons (ee_var (i := 4) rfl) eap_nil)) hz2 (fin _ ⟨_, _, rfl⟩))
    | nw j =>
      obtain ⟨e1, e2⟩ := hf
      have e1 : leaf = false := e1
      subst e1
      obtain ⟨i1, i2⟩ := hin
      have hg : ps[j.toNat]? = some (ps.getD j.toNat 0) := by rw [List.getD_eq_getElem?_getD, List.getElem?_eq_getElem i2]; rfl
      have hgp := hpp _ (List.mem_of_getElem? hg)
      refine wss_cons (ws_ife (k := true) (ET.is (et_cmp (ee_sub (ee_var (i := 0) rfl) ee_int (fun m => by walk_at "sd")) (ee_gstr T.c_FORK) (by walk_at "cd")) rfl) (fun _ => ?_) fun z => by cases z)
      refine wss_one (ws_setE (i := 4) sc_sheet_text.nd (ee_callTy (ea_cons (ee_if (k := true) (et_val (ee_callB (ea_cons (ee_var (i := 4) rfl) (ea_cons (ee_blt (v := .ty "tuple") T.m_tuple bo_tuple rfl) ea_nil)) (fun m => by walk_at "ca") T.m_isinstance bo_isinstance)) (fun _ => ee_sub (ee_var (i := 1) rfl) (ee_sub (ee_var (i := 4) rfl) ee_int (fun m => by walk_at "sd")) (fun m => sd_tup (at_nn i1 (by rw [List.getElem?_map, hg]; rfl)))) (fun z => by cases z)) ea_nil) (fun m => ca_strI hgp.2) T.m_str bo_str) ?_)
      exact wss_one (ws_ext (ee_var (i := 2) rfl) List.mem_cons_self (eap_cons (ee_var (i := 3) rfl) (eap_cons (ee_var (i := 4) rfl) eap_nil)) hz2 (fin _ ⟨_, _, rfl⟩))
  · rintro ds' m' ⟨y1, y2, rfl, rfl⟩
    rw [List.length_map, List.length_map, List.take_length]
    refine wss_seal (i := 2) rfl (wss_one (ws_retE (ee_meth PySem.F.plainAttrs_str PySem.F.slot_str_join PySem.F.type_str_join (ee_gstr T.c_FEED) (ea_cons (ee_var (i := 2) rfl) ea_nil) (fun m => md_join (ls := wordsS ⟨leaf, es⟩ ps) (join_fits hww ?_))) hp))
    show (_ :: bodyS es ps).length ≤ 900
    rw [List.length_cons, body_len]
    omega
theorem ok_written (T : Tx K mg) : FnG P w K mg base CX0 5 T.a_written T.d_written ["sheet", "places"] (SpD K (pureF R_written)) := by
  refine fnD_ok T.F_written sc_written (fun xs m Pp ⟨d, h, _⟩ => by cases h <;> rfl) (fun cdv A outer s H E rm xs m Pp ⟨d, hR, hp⟩ => ?_)
  cases hR with | @mk s ps hs hi hb hin hpl =>
  obtain ⟨leaf, es⟩ := s
  have hl4 := hi.l
  dsimp only at hl4
  refine wss_cons (ws_ife (k := false) (ET.is (et_not (et_val (eg_call (ok_is_sheet T) (rm.mono (by decide)) T.m_is_sheet T.F_is_sheet.kp T.b_is_sheet (ea_cons (ee_var (i := 0) rfl) ea_nil) (by walk_at "call is_sheet")))) (by rw [hb]; rfl)) (fun z => by cases z) fun _ => wss_nil ?_)
  refine wss_cons (ws_ife (k := false) (ET.is (et_w (ew_or (et_not (et_val (ee_callB (ea_cons (ee_var (i := 1) rfl) (ea_cons (ee_blt (v := .ty "tuple") T.m_tuple bo_tuple rfl) ea_nil)) (fun m => by walk_at "ca") T.m_isinstance bo_isinstance))) (fun _ => ew_or1 (et_not (et_val (ee_callB (ea_cons (ee_lcm (ps) (fun i => I i) (fun i => PyData.bool (inR i)) [("place", 3)] rfl sc_written.nd (EI.is (ei_tup (ee_var (i := 1) rfl)) (show (ps.map PyData.int).map SD.py = ps.map fun i => I i from by rw [List.map_map]; rfl)) (by walk_at "sz") (fun a ha s H Ce cl fp => (eg_call (ok_is_integer T) (rm.mono (by decide)) T.m_is_integer T.F_is_integer.kp T.b_is_integer (ea_cons (ee_var (i := 3) rfl) (ea_cons ee_int (ea_cons (ee_gint T.c_MOST_PLACE) ea_nil))) (by walk_at "call is_integer"))) (fun _ _ _ _ _ _ _ _ _ p => wg_name p sc_written.nd) (blkOk_by (by rfl))) ea_nil) (fun m => by walk_at "ca") T.m_all bo_all)))))) (by rw [hin]; rfl)) (fun z => by cases z) fun _ => wss_nil ?_)
  refine wss_cons (ws_setLctf (i := 2) (es) (fun q => .str ⟨q.1.toArray⟩ ) ( fun q => tlP q.2) (fun q => (match q.2 with | .nw _ => true | _ => false) ) ( fun q => tlP q.2) [("key", 4), ("told", 5)] rfl sc_written.nd (EI.is (ei_tup (ee_sub (ee_var (i := 0) rfl) ee_int (fun m => by walk_at "sd"))) (ent_sd _)) (by walk_at "sz") (fun a ha s H Ce cl fp => (by
    have hf := (hs.k _ ha).2
    obtain ⟨aw, tl⟩ := a
    cases tl with
    | v w =>
      obtain ⟨e1, e2⟩ := hf
      have e1 : leaf = true := e1
      subst e1
      exact ET.is (et_w (ew_and (k := false) (ET.is (et_cmp (ee_sub (ee_var (i := 0) rfl) ee_int (fun m => by walk_at "sd")) (ee_gstr T.c_FORK) (by walk_at "cd")) rfl) (l := false) (fun z => by cases z))) rfl
    | n j =>
      obtain ⟨e1, e2⟩ := hf
      have e1 : leaf = false := e1
      subst e1
      exact ET.is (et_w (ew_and (k := true) (ET.is (et_cmp (ee_sub (ee_var (i := 0) rfl) ee_int (fun m => by walk_at "sd")) (ee_gstr T.c_FORK) (by walk_at "cd")) rfl) (fun _ => ew_and1 (et_val (ee_callB (ea_cons (ee_var (i := 5) rfl) (ea_cons (ee_blt (v := .ty "tuple") T.m_tuple bo_tuple rfl) ea_nil)) (fun m => by walk_at "ca") T.m_isinstance bo_isinstance))))) rfl
    | nw j =>
      obtain ⟨e1, e2⟩ := hf
      have e1 : leaf = false := e1
      subst e1
      exact ET.is (et_w (ew_and (k := true) (ET.is (et_cmp (ee_sub (ee_var (i := 0) rfl) ee_int (fun m => by walk_at "sd")) (ee_gstr T.c_FORK) (by walk_at "cd")) rfl) (fun _ => ew_and1 (et_val (ee_callB (ea_cons (ee_var (i := 5) rfl) (ea_cons (ee_blt (v := .ty "tuple") T.m_tuple bo_tuple rfl) ea_nil)) (fun m => by walk_at "ca") T.m_isinstance bo_isinstance))))) rfl)) (fun a ha hp s H Ce cl fp => (ee_var (i := 5) rfl)) (fun _ _ _ _ _ _ _ _ _ _ p => wg_tup (wgs_cons (wg_name (wgs_cons (wg_name (wgs_nil p) sc_written.nd)) sc_written.nd))) (blkOk_by (by rfl)) ?_)
  have hany : ∀ q ∈ es.filter (fun q => (match q.2 with | .nw _ => true | _ => false)), ∃ j : Int, q.2 = .nw j ∧ 0 ≤ j ∧ j.toNat < ps.length := fun q hq => by
    obtain ⟨h1, h2⟩ := List.mem_filter.mp hq
    have := hi.t q h1
    obtain ⟨qw, tl⟩ := q
    cases tl with
    | v w => cases h2
    | n j => cases h2
    | nw j => exact ⟨j, rfl, this.1, this.2⟩
  have hfl : (es.filter (fun q => (match q.2 with | .nw _ => true | _ => false))).length ≤ 4 := Nat.le_trans (List.length_filter_le _ _) hl4
  generalize es.filter (fun q => (match q.2 with | .nw _ => true | _ => false)) = fl at hany hfl
  refine wss_cons (ws_ife (k := false) (ET.is (et_val (ee_callB (ea_cons (ee_lcm (fl) (fun q => .py (tlP q.2)) (fun q => PyData.bool false) [("child", 6)] rfl sc_written.nd (EI.is (ei_lst (ee_var (i := 2) rfl)) (show (fl.map fun q => tlP q.2).map SD.py = fl.map fun q => SD.py (tlP q.2) from by rw [List.map_map]; rfl)) (by walk_at "sz") (fun a ha s H Ce cl fp => (by
    obtain ⟨j, e, j0, j1⟩ := hany a ha
    rw [e]
    exact EE.is (ee_cmp (ee_sub (ee_var (i := 6) rfl) ee_int (fun m => by walk_at "sd")) (ee_callB (ea_cons (ee_var (i := 1) rfl) ea_nil) (fun m => by walk_at "ca") T.m_len bo_len) (by walk_at "cd")) (B_eq (b := false) (decide_eq_false (by rw [List.length_map]; omega))))) (fun _ _ _ _ _ _ _ _ _ p => wg_name p sc_written.nd) (blkOk_by (by rfl))) ea_nil) (fun m => by walk_at "ca") T.m_any bo_any)) (by simp)) (fun z => by cases z) fun _ => wss_nil ?_)
  exact wss_one (ws_retE (eg_call (ok_sheet_text T) (rm.mono (by decide)) T.m_sheet_text T.F_sheet_text.kp T.b_sheet_text (ea_cons (ee_var (i := 0) rfl) (ea_cons (ee_var (i := 1) rfl) ea_nil)) (.mk hs hi)) hp)
theorem ok__law_text (T : Tx K mg) : FnG P w K mg base CX0 1 T.a__law_text T.d__law_text ["sheet", "places"] (SpD K (pureF R__law_text)) := by
  refine fnD_ok T.F__law_text sc__law_text (fun xs m Pp ⟨d, h, _⟩ => by cases h <;> rfl) (fun cdv A outer s H E rm xs m Pp ⟨d, hR, hp⟩ => ?_)
  cases hR with | @mk s ps hs hi =>
  obtain ⟨leaf, es⟩ := s
  have hww := words_wrd hs hi
  have hl4 := hi.l
  dsimp only at hl4
  refine wss_cons (ws_set (i := 2) sc__law_text.nd (we_lstN (EA.to (ea_cons (ee_ifp (et_cmp (ee_sub (ee_var (i := 0) rfl) ee_int (fun m => by walk_at "sd")) (ee_strS (l := [108, 101, 97, 102])) (by walk_at "cd")) (fun hk => (ee_strS (l := [108]))) (fun hk => (ee_strS (l := [102])))) ea_nil) ⟨[_], rfl, by simp, fun q hq => ?_⟩)))
  refine wss_cons (ws_for (js := [3, 4]) (((ei_tup (ee_sub (ee_var (i := 0) rfl) ee_int (fun m => by walk_at "sd")))).to ⟨fun i ds' m' => ∃ (y1 y2 y3 : Option SD), ds' = [some (.py (shP ⟨leaf, es⟩)), some (Tp (ps.map .int)), some (.raw (.ref q)), y1, y2, y3] ∧ m' = (q, .dl (txts ((if leaf = true then [108] else [102]) :: bodyS (es.take i) ps))) :: m, ⟨none, none, none, rfl, ?_⟩, ?_, ?_⟩))
  · cases leaf <;> rfl
  · rintro i x ds' m' hx ⟨y1, y2, y3, rfl, rfl⟩
    rw [ent_sd] at hx
    obtain ⟨⟨kw, tl⟩, he, rfl⟩ := map_get hx
    have hmem := List.mem_of_getElem? he
    obtain ⟨hk, hf⟩ := hs.k _ hmem
    have hin := hi.t _ hmem
    have hpp := hi.p
    have hlt := get_lt he
    have hbl := body_len (es.take i) ps
    rw [List.length_take] at hbl
    have fin : ∀ ds2 : DE, (∃ (y1 y2 y3 : Option SD), ds2 = [some (.py (shP ⟨leaf, es⟩)), some (Tp (ps.map .int)), some (.raw (.ref q)), y1, y2, y3]) → ∃ (y1 y2 y3 : Option SD), ds2 = [some (.py (shP ⟨leaf, es⟩)), some (Tp (ps.map .int)), some (.raw (.ref q)), y1, y2, y3] ∧ mset ((q, OV.dl (txts ((if leaf = true then [108] else [102]) :: bodyS (es.take i) ps))) :: m) q (.dl (txts ((if leaf = true then [108] else [102]) :: bodyS (es.take i) ps) ++ [.str ⟨kw.toArray⟩, .str ⟨(tlW ps tl).toArray⟩])) = (q, .dl (txts ((if leaf = true then [108] else [102]) :: bodyS (es.take (i + 1)) ps))) :: m := fun ds2 ⟨z1, z2, z3, e⟩ => by
      refine ⟨z1, z2, z3, e, ?_⟩
      rw [mset_head hq, take_snoc he, body_snoc]
      unfold txts
      rw [List.map_cons, List.map_cons, List.map_append]
      rfl
    have hz2 : (txts ((if leaf = true then [108] else [102]) :: bodyS (es.take i) ps)).length + ([PyData.str ⟨kw.toArray⟩, .str ⟨(tlW ps tl).toArray⟩] : List PyData).length ≤ 1000000 := by
      simp only [List.length_map, List.length_cons, List.length_nil]
      omega
    refine wg_tup (wgs_cons (wg_name (wgs_cons (wg_name (wgs_nil ?_) sc__law_text.nd)) sc__law_text.nd))
    cases tl with
    | v w =>
      obtain ⟨e1, e2⟩ := hf
      have e1 : leaf = true := e1
      subst e1
      refine wss_cons (ws_setE (i := 5) sc__law_text.nd (ee_if (k := false) (et_val (ee_callB (ea_cons (ee_var (i := 4) rfl) (ea_cons (ee_blt (v := .ty "tuple") T.m_tuple bo_tuple rfl) ea_nil)) (fun m => by walk_at "ca") T.m_isinstance bo_isinstance)) (fun z => by cases z) (fun _ => (ee_var (i := 4) rfl))) ?_)
      exact wss_one (ws_ext (ee_var (i := 2) rfl) List.mem_cons_self (eap_cons (ee_var (i := 3) rfl) (eap_cons (ee_if (k := true) (ET.is (et_cmp (ee_sub (ee_var (i := 0) rfl) ee_int (fun m => by walk_at "sd")) (ee_strS (l := [108, 101, 97, 102])) (by walk_at "cd")) rfl) (fun _ => (ee_var (i := 4) rfl)) (fun z => by cases z)) eap_nil)) hz2 (fin _ ⟨_, _, _, rfl⟩))
    | n j =>
      obtain ⟨e1, e2⟩ := hf
      have e1 : leaf = false := e1
      subst e1
      refine wss_cons (ws_setE (i := 5) sc__law_text.nd (ee_if (k := false) (et_val (ee_callB (ea_cons (ee_var (i := 4) rfl) (ea_cons (ee_blt (v := .ty "tuple") T.m_tuple bo_tuple rfl) ea_nil)) (fun m => by walk_at "ca") T.m_isinstance bo_isinstance)) (fun z => by cases z) (fun _ => (ee_var (i := 4) rfl))) ?_)
      exact wss_one (ws_ext (ee_var (i := 2) rfl) List.mem_cons_self (eap_cons (ee_var (i := 3) rfl) (eap_cons (ee_if (k := false) (ET.is (et_cmp (ee_sub (ee_var (i := 0) rfl) ee_int (fun m => by walk_at "sd")) (ee_strS (l := [108, 101, 97, 102])) (by walk_at "cd")) rfl) (fun z => by cases z) (fun _ => ee_callTy (ea_cons (ee_var (i := 5) rfl) ea_nil) (fun m => ca_strI e2) T.m_str bo_str)) eap_nil)) hz2 (fin _ ⟨_, _, _, rfl⟩))
    | nw j =>
      obtain ⟨e1, e2⟩ := hf
      have e1 : leaf = false := e1
      subst e1
      obtain ⟨i1, i2⟩ := hin
      have hg : ps[j.toNat]? = some (ps.getD j.toNat 0) := by rw [List.getD_eq_getElem?_getD, List.getElem?_eq_getElem i2]; rfl
      have hgp := hpp _ (List.mem_of_getElem? hg)
      refine wss_cons (ws_setE (i := 5) sc__law_text.nd (ee_if (k := true) (et_val (ee_callB (ea_cons (ee_var (i := 4) rfl) (ea_cons (ee_blt (v := .ty "tuple") T.m_tuple bo_tuple rfl) ea_nil)) (fun m => by walk_at "ca") T.m_isinstance bo_isinstance)) (fun _ => ee_sub (ee_var (i := 1) rfl) (ee_sub (ee_var (i := 4) rfl) ee_int (fun m => by walk_at "sd")) (fun m => sd_tup (at_nn i1 (by rw [List.getElem?_map, hg]; rfl)))) (fun z => by cases z)) ?_)
      exact wss_one (ws_ext (ee_var (i := 2) rfl) List.mem_cons_self (eap_cons (ee_var (i := 3) rfl) (eap_cons (ee_if (k := false) (ET.is (et_cmp (ee_sub (ee_var (i := 0) rfl) ee_int (fun m => by walk_at "sd")) (ee_strS (l := [108, 101, 97, 102])) (by walk_at "cd")) rfl) (fun z => by cases z) (fun _ => ee_callTy (ea_cons (ee_var (i := 5) rfl) ea_nil) (fun m => ca_strI hgp.2) T.m_str bo_str)) eap_nil)) hz2 (fin _ ⟨_, _, _, rfl⟩))
  · rintro ds' m' ⟨y1, y2, y3, rfl, rfl⟩
    rw [List.length_map, List.length_map, List.take_length]
    refine wss_seal (i := 2) rfl (wss_one (ws_retE (ee_meth PySem.F.plainAttrs_str PySem.F.slot_str_join PySem.F.type_str_join (ee_strS (l := [10])) (ea_cons (ee_var (i := 2) rfl) ea_nil) (fun m => md_join (ls := wordsS ⟨leaf, es⟩ ps) (join_fits hww ?_))) hp))
    show (_ :: bodyS es ps).length ≤ 900
    rw [List.length_cons, body_len]
    omega
end
end K76
end W9
namespace W9
namespace K76
open PySem PySem.Spec PyProof.Rows L2
local macro_rules | `(tactic| walk_at "sz") => `(tactic| first | assumption | omega | decide | (simp only [List.length_append, List.length_map, List.length_cons, List.length_nil]; omega) | (simp only [List.length_zip, List.length_drop, List.length_map, List.length_append, List.length_cons, List.length_nil]; omega))
local macro_rules | `(tactic| walk_at "bd") => `(tactic| first | exact bd_add | exact bd_sub | exact bd_mul (by omega) | exact bd_mod (by omega) | exact bd_pow (by omega) | exact bd_powX (by decide +kernel) | exact bd_mod (by decide +kernel) | exact bd_mulB | exact bd_div (by omega) | exact bd_mulS ⟨by omega, by omega, by omega⟩ | exact bd_addS (by walk_at "sz") | exact bd_catL (by walk_at "sz"))
local macro_rules | `(tactic| walk_at "cd") => `(tactic| first | exact cd_lt | exact cd_le | exact cd_gt | exact cd_ge | exact cd_eq | exact cd_ne | exact cd_noneInF ‹Rm 0 _› | exact cd_neL ‹Rm 0 _› (by walk_at "pl") (by walk_at "pl") | exact cd_notinTs | exact cd_inTs ‹Rm 0 _› (by walk_at "pc") (by walk_at "pl") | exact cd_inS | exact cd_isN | exact cd_notN | exact cd_eqS | exact cd_neS | exact cd_ltS | exact cd_leS | exact cd_gtS)
local macro_rules | `(tactic| walk_at "md") => `(tactic| first | exact md_split (by walk_at "sz") | exact md_isdigit | exact md_joinS (by walk_at "sz"))
local macro_rules | `(tactic| walk_at "sd") => `(tactic| first | exact sd_ints (l := [2147483647, 2147483629, 2147483587, 2147483579, 2147483563]) (by omega) (by simp only [List.length_cons, List.length_nil]; omega) | exact sd_lst (at_nn (by decide) (txts_get (lns_head _))) | exact sd_lst rfl | exact sd_tup rfl)
local macro_rules | `(tactic| walk_at "sl") => `(tactic| first | exact sl_L | exact sl_S (by walk_at "sz"))
local macro_rules | `(tactic| walk_at "rg") => `(tactic| omega)
local macro_rules | `(tactic| walk_at "ca") => `(tactic| first | exact ca_isiStr | exact ca_isiII | exact ca_isiIB | exact ca_isiTT | exact ca_isiIT | exact ca_isiST | exact ca_allm rfl | exact ca_anym rfl | exact ca_lenS (by walk_at "sz") | exact ca_lenL | exact ca_lenT | exact ca_tupL | exact ca_int | exact ca_intB | exact ca_strI (by walk_at "sz") | exact ca_abs | exact ca_max2 rfl | exact ca_min2 rfl)
local macro_rules | `(tactic| walk_at "fl") => `(tactic| first | rfl | simp)
local macro_rules | `(tactic| walk_at "rep") => `(tactic| assumption)
local macro_rules | `(tactic| walk_at "zz") => `(tactic| exact Nat.le_trans (Nat.min_le_right _ _) (by simp only [List.length_map]; omega))
local macro_rules | `(tactic| walk_at "call is_sheet") => `(tactic| exact .mk (by assumption))
local macro_rules | `(tactic| walk_at "ss") => `(tactic| walk_at "sz")
local macro_rules | `(tactic| walk_at "pl") => `(tactic| assumption)
local macro_rules | `(tactic| walk_at "pc") => `(tactic| assumption)
local macro_rules | `(tactic| walk_at "call is_whole") => `(tactic| exact .mk)
local macro_rules | `(tactic| walk_at "call is_integer") => `(tactic| exact .mk)
local macro_rules | `(tactic| walk_at "call is_tuple") => `(tactic| first | exact .tup | exact .int)
local macro_rules | `(tactic| walk_at "call is_string") => `(tactic| first | exact .new | exact .kd)
local macro_rules | `(tactic| walk_at "call is_page_text") => `(tactic| exact .mk (by assumption) (by assumption))
local macro_rules | `(tactic| walk_at "call is_child") => `(tactic| first | exact .n | exact .nw)
local macro_rules | `(tactic| walk_at "call sheet_of") => `(tactic| exact .mk (by assumption) (by assumption))
local macro_rules | `(tactic| walk_at "call sheet_in") => `(tactic| exact .mk (by assumption) (by assumption))
local macro_rules | `(tactic| walk_at "call _law_map_sheet") => `(tactic| exact .mk (by assumption) (by assumption))
local macro_rules | `(tactic| walk_at "call _law_read") => `(tactic| exact .mk (by assumption) (by assumption))
local macro_rules | `(tactic| walk_at "call _law_is_specified") => `(tactic| exact .mk (by assumption) (by assumption))
local macro_rules | `(tactic| walk_at "call sheet_text") => `(tactic| exact .mk (by assumption) (by assumption) (by assumption) (by assumption))
local macro_rules | `(tactic| walk_at "call _law_text") => `(tactic| exact .mk (by assumption) (by assumption) (by assumption) (by assumption))
local macro_rules | `(tactic| walk_at "call are_signs") => `(tactic| exact .mk (by assumption))
local macro_rules | `(tactic| walk_at "call is_key") => `(tactic| first | exact .mk (by assumption) | exact .mk (by solve_by_elim) | exact .mk (by walk_at "wd"))
local macro_rules | `(tactic| walk_at "call is_value") => `(tactic| first | exact .mk (by assumption) | exact .mk (by solve_by_elim) | exact .mk (by walk_at "wd"))
local macro_rules | `(tactic| walk_at "call long_whole_in") => `(tactic| exact .mk (by assumption))
local macro_rules | `(tactic| walk_at "call whole_in") => `(tactic| first | exact .mk (by assumption) | exact .mk (by solve_by_elim) | exact .mk (by walk_at "wd"))
local macro_rules | `(tactic| walk_at "call _law_map_is_key") => `(tactic| first | exact .mk (by assumption) | exact .mk (by solve_by_elim) | exact .mk (by walk_at "wd"))
local macro_rules | `(tactic| walk_at "call _law_map_is_value") => `(tactic| first | exact .mk (by assumption) | exact .mk (by solve_by_elim) | exact .mk (by walk_at "wd"))
local macro_rules | `(tactic| walk_at "call _law_map_number") => `(tactic| first | exact .mk (by assumption) | exact .mk (by solve_by_elim) | exact .mk (by walk_at "wd"))
local macro_rules | `(tactic| walk_at "call _law_cells") => `(tactic| exact .mk)

inductive R__law_map_is_key : List SD → SD → Prop
  | mk {w : List Nat} (h : Wrd w) : R__law_map_is_key [S w] (B (kOk w))
inductive R__law_map_is_value : List SD → SD → Prop
  | mk {w : List Nat} (h : Wrd w) : R__law_map_is_value [S w] (B (vOk w))
inductive R__law_map_number : List SD → SD → Prop
  | mk {w : List Nat} (h : Wrd w) : R__law_map_number [S w] (.py (oiP (lawNum w)))
def lawO : Option Sh → PyData
  | none => .none
  | some s => .tuple [.str ⟨(kdS s.leaf).toArray⟩, .list (s.es.map entP)]
inductive R__law_map_sheet : List SD → SD → Prop
  | mk {t : List Nat} (h : OkT t) (hl : t.length ≤ 113) : R__law_map_sheet [S t] (.py (lawO (lawRead t)))
inductive R__law_read : List SD → SD → Prop
  | mk {t : List Nat} (h : OkT t) (hl : t.length ≤ 113) : R__law_read [S t] (.py (shO (lawRead t)))
def specB (t : List Nat) : Bool := !((lns t).any fun w => decide ((12 : Int) < (w.length : Int)) && Txt.isdigit ⟨w.toArray⟩)
inductive R__law_is_specified : List SD → SD → Prop
  | mk {t : List Nat} (h : OkT t) (hl : t.length ≤ 113) : R__law_is_specified [S t] (B (specB t))
theorem sg_law {w : List Nat} (h : Wrd w) (f : Nat) : (true && ((decide ((1 : Int) ≤ (w.length : Int)) && decide ((w.length : Int) ≤ 13)) && w.all fun c => (!decide ([c] < [f]) && !decide ([126] < [c])))) = sgB 1 13 f w := by
  rw [signs_law h, Bool.true_and]
  unfold sgB
  have e1 : decide ((1 : Int) ≤ (w.length : Int)) = decide (1 ≤ w.length) := by
    by_cases q : 1 ≤ w.length
    · rw [decide_eq_true q, decide_eq_true (by omega)]
    · rw [decide_eq_false q, decide_eq_false (by omega)]
  have e2 : decide ((w.length : Int) ≤ 13) = decide (w.length ≤ 13) := by
    by_cases q : w.length ≤ 13
    · rw [decide_eq_true q, decide_eq_true (by omega)]
    · rw [decide_eq_false q, decide_eq_false (by omega)]
  rw [e1, e2]
theorem kind_ok {t : List Nat} : (isNone (kindP (head0 t)) || decide (((txts (lns t)).length : Int) % 2 = 0)) = !headOk t := by
  rw [List.length_map]
  unfold headOk kindP
  have e1 : decide (((lns t).length : Int) % 2 = 0) = decide ((lns t).length % 2 = 0) := by
    by_cases q : (lns t).length % 2 = 0
    · rw [decide_eq_true q, decide_eq_true (by omega)]
    · rw [decide_eq_false q, decide_eq_false (by omega)]
  rw [e1]
  by_cases h1 : head0 t = [108]
  · rw [if_pos h1, decide_eq_true h1]
    cases decide ((lns t).length % 2 = 0) <;> rfl
  · rw [if_neg h1, decide_eq_false h1]
    by_cases h2 : head0 t = [102]
    · rw [if_pos h2, decide_eq_true h2]
      cases decide ((lns t).length % 2 = 0) <;> rfl
    · rw [if_neg h2, decide_eq_false h2]
      rfl
theorem good_eq {t : List Nat} {b : Bool} : (!(decide ((lowOf b : Int) ≤ ((txts (keysOf t)).length : Int)) && decide (((txts (keysOf t)).length : Int) ≤ 4)) || !((keysOf t).all kOk)) = !keysGood t b := by
  rw [List.length_map]
  unfold keysGood
  have e1 : decide ((lowOf b : Int) ≤ ((keysOf t).length : Int)) = decide (lowOf b ≤ (keysOf t).length) := by
    by_cases q : lowOf b ≤ (keysOf t).length
    · rw [decide_eq_true q, decide_eq_true (by omega)]
    · rw [decide_eq_false q, decide_eq_false (by omega)]
  have e2 : decide (((keysOf t).length : Int) ≤ 4) = decide ((keysOf t).length ≤ 4) := by
    by_cases q : (keysOf t).length ≤ 4
    · rw [decide_eq_true q, decide_eq_true (by omega)]
    · rw [decide_eq_false q, decide_eq_false (by omega)]
  rw [e1, e2]
  cases decide (lowOf b ≤ (keysOf t).length) <;> cases decide ((keysOf t).length ≤ 4) <;> cases (keysOf t).all kOk <;> rfl
theorem good_few {t : List Nat} {b : Bool} (h : keysGood t b = true) : (keysOf t).length ≤ 4 := by
  unfold keysGood at h
  rw [Bool.and_eq_true, Bool.and_eq_true, decide_eq_true_eq, decide_eq_true_eq] at h
  exact h.1.2
theorem sds_plain {ks : List (List Nat)} (h : Plain ks) : Plain (sds ks) := fun w hw => h w ((sds_mem w ks).mp hw)
section
variable {P : Program} {w : World} {K : PySem.W.Frag} {mg : Str → Option Value} {base : Heap}
theorem ok__law_map_is_key (T : Tx K mg) : FnG P w K mg base CX0 1 T.a__law_map_is_key T.d__law_map_is_key ["value"] (SpD K (pureF R__law_map_is_key)) := by
  refine fnD_ok T.F__law_map_is_key sc__law_map_is_key (fun xs m Pp ⟨d, h, _⟩ => by cases h <;> rfl) (fun cdv A outer s H E rm xs m Pp ⟨d, hR, hp⟩ => ?_)
  cases hR with | @mk w hw =>
  have hl := hw.l
  exact wss_one (ws_retE (EE.is (ee_and (ee_callB (ea_cons (ee_var (i := 0) rfl) (ea_cons (ee_blt (v := .ty "str") T.m_str bo_str rfl) ea_nil)) (fun m => by walk_at "ca") T.m_isinstance bo_isinstance) (fun _ => ee_and (we_chain ee_int (ee_callB (ea_cons (ee_var (i := 0) rfl) ea_nil) (fun m => by walk_at "ca") T.m_len bo_len) ee_int (by walk_at "cd") (by walk_at "cd") rfl).1 (fun _ => ee_one (ee_callB (ea_cons (ee_lcm (w) (fun c => S [c]) (fun c => PyData.bool (!decide ([c] < [33]) && !decide ([126] < [c]))) [("sign", 1)] rfl sc__law_map_is_key.nd (ei_str (ee_var (i := 0) rfl)) (by walk_at "sz") (fun a ha s H Ce cl fp => (we_chain (ee_strS (l := [33])) (ee_var (i := 1) rfl) (ee_strS (l := [126])) (by walk_at "cd") (by walk_at "cd") rfl).1) (fun _ _ _ _ _ _ _ _ _ p => wg_name p sc__law_map_is_key.nd) (blkOk_by (by rfl))) ea_nil) (fun m => by walk_at "ca") T.m_all bo_all)))) (B_eq (sg_law hw 33))) hp)
theorem ok__law_map_is_value (T : Tx K mg) : FnG P w K mg base CX0 1 T.a__law_map_is_value T.d__law_map_is_value ["value"] (SpD K (pureF R__law_map_is_value)) := by
  refine fnD_ok T.F__law_map_is_value sc__law_map_is_value (fun xs m Pp ⟨d, h, _⟩ => by cases h <;> rfl) (fun cdv A outer s H E rm xs m Pp ⟨d, hR, hp⟩ => ?_)
  cases hR with | @mk w hw =>
  have hl := hw.l
  exact wss_one (ws_retE (EE.is (ee_and (ee_callB (ea_cons (ee_var (i := 0) rfl) (ea_cons (ee_blt (v := .ty "str") T.m_str bo_str rfl) ea_nil)) (fun m => by walk_at "ca") T.m_isinstance bo_isinstance) (fun _ => ee_and (we_chain ee_int (ee_callB (ea_cons (ee_var (i := 0) rfl) ea_nil) (fun m => by walk_at "ca") T.m_len bo_len) ee_int (by walk_at "cd") (by walk_at "cd") rfl).1 (fun _ => ee_one (ee_callB (ea_cons (ee_lcm (w) (fun c => S [c]) (fun c => PyData.bool (!decide ([c] < [32]) && !decide ([126] < [c]))) [("sign", 1)] rfl sc__law_map_is_value.nd (ei_str (ee_var (i := 0) rfl)) (by walk_at "sz") (fun a ha s H Ce cl fp => (we_chain (ee_strS (l := [32])) (ee_var (i := 1) rfl) (ee_strS (l := [126])) (by walk_at "cd") (by walk_at "cd") rfl).1) (fun _ _ _ _ _ _ _ _ _ p => wg_name p sc__law_map_is_value.nd) (blkOk_by (by rfl))) ea_nil) (fun m => by walk_at "ca") T.m_all bo_all)))) (B_eq (sg_law hw 32))) hp)
theorem ok__law_map_number (T : Tx K mg) : FnG P w K mg base CX0 1 T.a__law_map_number T.d__law_map_number ["word"] (SpD K (pureF R__law_map_number)) := by
  refine fnD_ok T.F__law_map_number sc__law_map_number (fun xs m Pp ⟨d, h, _⟩ => by cases h <;> rfl) (fun cdv A outer s H E rm xs m Pp ⟨d, hR, hp⟩ => ?_)
  cases hR with | @mk w hw =>
  have hl := hw.l
  refine wss_cons (ws_ife (k := !(decide ((1 : Int) ≤ (w.length : Int)) && decide ((w.length : Int) ≤ 12)) || !figB w) (et_w (ew_or (et_not (we_chain ee_int (ee_callB (ea_cons (ee_var (i := 0) rfl) ea_nil) (fun m => by walk_at "ca") T.m_len bo_len) ee_int (by walk_at "cd") (by walk_at "cd") rfl).2) (fun hk => ew_or1 (et_not (et_val (ee_callB (ea_cons (ee_lcm (w) (fun c => S [c]) (fun c => PyData.bool (decide (c ∈ figs))) [("sign", 1)] rfl sc__law_map_number.nd (ei_str (ee_var (i := 0) rfl)) (by walk_at "sz") (fun a ha s H Ce cl fp => (ee_cmp (ee_var (i := 1) rfl) (ee_strS (l := [48, 49, 50, 51, 52, 53, 54, 55, 56, 57])) (by walk_at "cd"))) (fun _ _ _ _ _ _ _ _ _ p => wg_name p sc__law_map_number.nd) (blkOk_by (by rfl))) ea_nil) (fun m => by walk_at "ca") T.m_all bo_all)))))) (fun h => ?_) fun h => wss_nil ?_)
  · refine wss_one (ws_retE (EE.is ee_non ?_) hp)
    have e : lawNum w = none := by
      unfold lawNum
      rw [if_neg]
      rintro ⟨h1, h2⟩
      rw [h2, Bool.or_eq_true, Bool.not_eq_true', Bool.and_eq_false_iff, decide_eq_false_iff_not, decide_eq_false_iff_not] at h
      rw [Bool.and_eq_true, decide_eq_true_eq, decide_eq_true_eq] at h1
      rcases h with h | h
      · omega
      · cases h
    rw [e]
    rfl
  · rw [Bool.or_eq_false_iff, Bool.not_eq_false', Bool.not_eq_false', Bool.and_eq_true, decide_eq_true_eq, decide_eq_true_eq] at h
    obtain ⟨⟨h1, h12⟩, h2⟩ := h
    have hm : w.take 1 ≠ [45] := fun z => by
      cases w with
      | nil => simp at z
      | cons x r =>
        have : x = 45 := by simpa using z
        have := figB_iff.mp h2 x List.mem_cons_self
        omega
    have ef : figOf w = w := if_neg hm
    have ei : ivalW w = ((valN w : Nat) : Int) := if_neg hm
    have hti := text_int (w := w) hl (by rw [ef]; exact h2) (by rw [ef]; omega)
    rw [ei] at hti
    obtain ⟨c, r, rfl⟩ : ∃ c r, w = c :: r := by
      cases w with
      | nil => simp at h1
      | cons c r => exact ⟨c, r, rfl⟩
    refine wss_one (ws_retE (EE.is (ee_ifp (et_w (ew_or (et_cmp (ee_var (i := 0) rfl) (ee_strS (l := [48])) (by walk_at "cd")) (fun hk => ew_or1 (et_cmp (ee_sub (ee_var (i := 0) rfl) ee_int (fun m => sd_str (c := c) (at_nn (by decide) rfl) (by omega))) (ee_strS (l := [48])) cd_neS)))) (fun hk => ee_callTy (ea_cons (ee_var (i := 0) rfl) ea_nil) (fun m => ca_intS hti (by omega)) T.m_int bo_int) (fun hk => ee_non)) ?_) hp)
    have e : lawNum (c :: r) = if (c :: r) = [48] ∨ (c :: r).head? ≠ some 48 then some ((valN (c :: r) : Nat) : Int) else none := by
      unfold lawNum
      rw [if_pos ⟨by rw [Bool.and_eq_true, decide_eq_true_eq, decide_eq_true_eq]; omega, h2⟩]
    rw [e]
    have e2 : (decide (c :: r = [48]) || !decide ([c] = [48])) = decide ((c :: r) = [48] ∨ (c :: r).head? ≠ some 48) := by
      by_cases q1 : c :: r = [48]
      · have z : (c :: r) = [48] ∨ (c :: r).head? ≠ some 48 := .inl q1
        rw [decide_eq_true q1, decide_eq_true z]; rfl
      · by_cases q2 : c = 48
        · rw [decide_eq_false q1, decide_eq_true (by rw [q2]), decide_eq_false (fun z => z.elim q1 (fun z => z (by rw [q2]; rfl)))]; rfl
        · rw [decide_eq_false q1, decide_eq_false (fun z => q2 (by simpa using z)), decide_eq_true (.inr (fun z => q2 (by simpa using z)))]; rfl
    rw [e2]
    by_cases q : (c :: r) = [48] ∨ (c :: r).head? ≠ some 48
    · rw [if_pos q, if_pos (decide_eq_true q)]; rfl
    · rw [if_neg q, if_neg (by rw [decide_eq_true_eq]; exact q)]; rfl
theorem ok__law_map_sheet (T : Tx K mg) : FnG P w K mg base CX0 2 T.a__law_map_sheet T.d__law_map_sheet ["text"] (SpD K (pureF R__law_map_sheet)) := by
  refine fnD_ok T.F__law_map_sheet sc__law_map_sheet (fun xs m Pp ⟨d, h, _⟩ => by cases h <;> rfl) (fun cdv A outer s H E rm xs m Pp ⟨d, hR, hp⟩ => ?_)
  cases hR with | @mk t ht hl =>
  have hkw := keys_wrd ht hl
  have htw := told_wrd ht hl
  have hf := lns_few (t := t) hl
  have hkf := keys_few (t := t) hl
  have htf := told_few (t := t) hl
  have hpk : Plain (keysOf t) := plain_wrd hkw
  have hps := sds_plain hpk
  have rm0 : Rm 0 _ := rm.mono (Nat.zero_le _)
  refine wss_cons (ws_setE (i := 1) sc__law_map_sheet.nd (ee_meth PySem.F.plainAttrs_str PySem.F.slot_str_split PySem.F.type_str_split (ee_var (i := 0) rfl) (ea_cons (ee_strS (l := [10])) ea_nil) (fun m => by walk_at "md")) ?_)
  refine wss_cons (ws_setE (i := 2) sc__law_map_sheet.nd (ee_kind ‹Rm 0 _› (ee_sub (ee_var (i := 1) rfl) ee_int (fun m => by walk_at "sd"))) ?_)
  refine wss_cons (ws_ife (k := !headOk t) (ET.is (et_w (ew_or (et_cmp (ee_var (i := 2) rfl) ee_non (by walk_at "cd")) (fun hk => (ew_or1 (et_cmp (ee_bin (ee_callB (ea_cons (ee_var (i := 1) rfl) ea_nil) (fun m => by walk_at "ca") T.m_len bo_len) ee_int (by walk_at "bd")) ee_int (by walk_at "cd")))))) kind_ok) (fun h => ?_) fun h => wss_nil ?_)
  · rw [Bool.not_eq_true'] at h
    refine wss_one (ws_retE (EE.is ee_non ?_) hp)
    unfold lawRead
    rw [if_neg (by rw [h]; exact Bool.false_ne_true)]
    rfl
  · rw [Bool.not_eq_false'] at h
    have hh : head0 t = [108] ∨ head0 t = [102] := by
      unfold headOk at h
      rw [Bool.and_eq_true, Bool.or_eq_true, decide_eq_true_eq, decide_eq_true_eq] at h
      exact h.1
    refine wss_cons (ws_par (i := 3) (j := 4) sc__law_map_sheet.nd (EA.to (ea_cons (ee_alt (b := 1) (ee_var (i := 1) rfl) (eo_some ee_int) (eo_some ee_int)) (ea_cons (ee_alt (b := 2) (ee_var (i := 1) rfl) (eo_some ee_int) (eo_some ee_int)) ea_nil)) ⟨_, _, rfl, ?_⟩))
    rw [alt_txts, alt_txts, show alt ((lns t).drop 1) = keysOf t from rfl, show alt ((lns t).drop 2) = toldOf t from rfl]
    by_cases hfk : head0 t = [102]
    · have hkd : kindP (head0 t) = .str ⟨nFork.toArray⟩ := by rw [hfk]; rfl
      rw [hkd]
      refine wss_cons (ws_setE (i := 4) (d := Ls ((toldOf t).map fun w => oiP (lawNum w))) sc__law_map_sheet.nd (ee_if (k := false) (ET.is (et_cmp (ee_var (i := 2) rfl) (ee_strS (l := [108, 101, 97, 102])) (by walk_at "cd")) (by decide)) (fun z => by cases z) (fun _ => (ee_lcm (toldOf t) (fun w => S w) (fun w => oiP (lawNum w)) [("word", 5)] rfl sc__law_map_sheet.nd (EI.is (ei_lst (ee_var (i := 4) rfl)) (txts_sd (toldOf t))) (by walk_at "sz") (fun a ha s H Ce cl fp => (eg_call (ok__law_map_number T) (rm.mono (by decide)) T.m__law_map_number T.F__law_map_number.kp T.b__law_map_number (ea_cons (ee_var (i := 5) rfl) ea_nil) (by walk_at "call _law_map_number"))) (fun _ _ _ _ _ _ _ _ _ p => wg_name p sc__law_map_sheet.nd) (blkOk_by (by rfl))))) ?_)
      refine wss_cons (ws_ife (k := !keysGood t false) (ET.is (et_w (ew_or (et_not (we_chain (ee_if (k := false) (ET.is (et_cmp (ee_var (i := 2) rfl) (ee_strS (l := [108, 101, 97, 102])) (by walk_at "cd")) (by decide)) (fun z => by cases z) (fun _ => ee_int)) (ee_callB (ea_cons (ee_var (i := 3) rfl) ea_nil) (fun m => by walk_at "ca") T.m_len bo_len) ee_int (by walk_at "cd") (by walk_at "cd") rfl).2) (fun _ => ew_or1 (et_not (et_val (ee_callB (ea_cons (ee_lcm (keysOf t) (fun w => S w) (fun w => PyData.bool (kOk w)) [("key", 6)] rfl sc__law_map_sheet.nd (EI.is (ei_lst (ee_var (i := 3) rfl)) (txts_sd (keysOf t))) (by walk_at "sz") (fun a ha s H Ce cl fp => (eg_call (ok__law_map_is_key T) (rm.mono (by decide)) T.m__law_map_is_key T.F__law_map_is_key.kp T.b__law_map_is_key (ea_cons (ee_var (i := 6) rfl) ea_nil) (by walk_at "call _law_map_is_key"))) (fun _ _ _ _ _ _ _ _ _ p => wg_name p sc__law_map_sheet.nd) (blkOk_by (by rfl))) ea_nil) (fun m => by walk_at "ca") T.m_all bo_all)))))) good_eq) (fun hg => ?_) fun hg => wss_nil ?_)
      · rw [Bool.not_eq_true'] at hg
        refine wss_one (ws_retE (EE.is ee_non ?_) hp)
        unfold lawRead
        rw [if_pos h, if_pos hfk, if_neg (by rw [hg]; exact Bool.false_ne_true)]
        rfl
      · rw [Bool.not_eq_false'] at hg
        have hk4 := good_few hg
        refine wss_cons (ws_ife (k := (!decide (keysOf t = sds (keysOf t))) || ((toldOf t).map lawNum).any (·.isNone)) (et_w (ew_or (et_cmp (ee_var (i := 3) rfl) (ee_sortset (ee_var (i := 3) rfl) (by walk_at "ss") T.m_sorted T.m_set) (by walk_at "cd")) (fun hk => (ew_or1 (et_cmp ee_non (ee_var (i := 4) rfl) (by walk_at "cd")))))) (fun hn => ?_) fun hn => wss_nil ?_)
        · refine wss_one (ws_retE (EE.is ee_non ?_) hp)
          unfold lawRead
          rw [if_pos h, if_pos hfk, if_pos hg, if_pos (by rw [Bool.or_eq_true] at hn; exact hn)]
          rfl
        · have hn2 := hn
          rw [Bool.or_eq_false_iff] at hn2
          refine wss_cons (ws_ife (k := false) (ET.is (et_w (ew_and (k := false) (ET.is (et_cmp (ee_var (i := 2) rfl) (ee_strS (l := [108, 101, 97, 102])) (by walk_at "cd")) (by decide)) (l := false) (fun z => by cases z))) rfl) (fun z => by cases z) fun _ => wss_nil ?_)
          refine wss_one (ws_retE (EE.is (ee_tup (eap_cons (ee_var (i := 2) rfl) (eap_cons (ee_listZip (ee_var (i := 3) rfl) (ee_var (i := 4) rfl) (by walk_at "zz") T.m_list T.m_zip) eap_nil))) ?_) hp)
          unfold lawRead
          rw [if_pos h, if_pos hfk, if_pos hg, if_neg (by rw [hn2.1, hn2.2]; simp), oi_some hn2.2]
          show Tp [_, PyData.list (zipP (txts (keysOf t)) _)] = _
          rw [zipP_fork]
          rfl
    · have hlf : head0 t = [108] := hh.resolve_right hfk
      have hkd : kindP (head0 t) = .str ⟨nLeaf.toArray⟩ := by rw [hlf]; rfl
      have hpt : Plain (toldOf t) := plain_wrd htw
      rw [hkd]
      refine wss_cons (ws_setE (i := 4) (d := Ls (txts (toldOf t))) sc__law_map_sheet.nd (ee_if (k := true) (ET.is (et_cmp (ee_var (i := 2) rfl) (ee_strS (l := [108, 101, 97, 102])) (by walk_at "cd")) (by decide)) (fun _ => (ee_var (i := 4) rfl)) (fun z => by cases z)) ?_)
      refine wss_cons (ws_ife (k := !keysGood t true) (ET.is (et_w (ew_or (et_not (we_chain (ee_if (k := true) (ET.is (et_cmp (ee_var (i := 2) rfl) (ee_strS (l := [108, 101, 97, 102])) (by walk_at "cd")) (by decide)) (fun _ => ee_int) (fun z => by cases z)) (ee_callB (ea_cons (ee_var (i := 3) rfl) ea_nil) (fun m => by walk_at "ca") T.m_len bo_len) ee_int (by walk_at "cd") (by walk_at "cd") rfl).2) (fun _ => ew_or1 (et_not (et_val (ee_callB (ea_cons (ee_lcm (keysOf t) (fun w => S w) (fun w => PyData.bool (kOk w)) [("key", 6)] rfl sc__law_map_sheet.nd (EI.is (ei_lst (ee_var (i := 3) rfl)) (txts_sd (keysOf t))) (by walk_at "sz") (fun a ha s H Ce cl fp => (eg_call (ok__law_map_is_key T) (rm.mono (by decide)) T.m__law_map_is_key T.F__law_map_is_key.kp T.b__law_map_is_key (ea_cons (ee_var (i := 6) rfl) ea_nil) (by walk_at "call _law_map_is_key"))) (fun _ _ _ _ _ _ _ _ _ p => wg_name p sc__law_map_sheet.nd) (blkOk_by (by rfl))) ea_nil) (fun m => by walk_at "ca") T.m_all bo_all)))))) good_eq) (fun hg => ?_) fun hg => wss_nil ?_)
      · rw [Bool.not_eq_true'] at hg
        refine wss_one (ws_retE (EE.is ee_non ?_) hp)
        unfold lawRead
        rw [if_pos h, if_neg hfk, if_neg (by rw [hg]; exact Bool.false_ne_true)]
        rfl
      · rw [Bool.not_eq_false'] at hg
        have hk4 := good_few hg
        refine wss_cons (ws_ife (k := (!decide (keysOf t = sds (keysOf t))) || false) (et_w (ew_or (et_cmp (ee_var (i := 3) rfl) (ee_sortset (ee_var (i := 3) rfl) (by walk_at "ss") T.m_sorted T.m_set) (by walk_at "cd")) (fun _ => ew_or1 (et_cmp ee_non (ee_var (i := 4) rfl) (cd_noneTx rm0 hpt))))) (fun hn => ?_) fun hn => wss_nil ?_)
        · refine wss_one (ws_retE (EE.is ee_non ?_) hp)
          unfold lawRead
          rw [Bool.or_false] at hn
          rw [if_pos h, if_neg hfk, if_pos hg, if_pos hn]
          rfl
        · rw [Bool.or_false] at hn
          refine wss_cons (ws_ife (k := !(toldOf t).all vOk) (ET.is (et_w (ew_and (k := true) (ET.is (et_cmp (ee_var (i := 2) rfl) (ee_strS (l := [108, 101, 97, 102])) (by walk_at "cd")) (by decide)) (fun _ => ew_and1 (et_not (et_val (ee_callB (ea_cons (ee_lcm (toldOf t) (fun w => S w) (fun w => PyData.bool (vOk w)) [("one", 7)] rfl sc__law_map_sheet.nd (EI.is (ei_lst (ee_var (i := 4) rfl)) (txts_sd (toldOf t))) (by walk_at "sz") (fun a ha s H Ce cl fp => (eg_call (ok__law_map_is_value T) (rm.mono (by decide)) T.m__law_map_is_value T.F__law_map_is_value.kp T.b__law_map_is_value (ea_cons (ee_var (i := 7) rfl) ea_nil) (by walk_at "call _law_map_is_value"))) (fun _ _ _ _ _ _ _ _ _ p => wg_name p sc__law_map_sheet.nd) (blkOk_by (by rfl))) ea_nil) (fun m => by walk_at "ca") T.m_all bo_all)))))) (Bool.true_and _)) (fun hv => ?_) fun hv => wss_nil ?_)
          · rw [Bool.not_eq_true'] at hv
            refine wss_one (ws_retE (EE.is ee_non ?_) hp)
            unfold lawRead
            rw [if_pos h, if_neg hfk, if_pos hg, if_neg (by rw [hn]; exact Bool.false_ne_true), if_neg (by rw [hv]; exact Bool.false_ne_true)]
            rfl
          · rw [Bool.not_eq_false'] at hv
            refine wss_one (ws_retE (EE.is (ee_tup (eap_cons (ee_var (i := 2) rfl) (eap_cons (ee_listZip (ee_var (i := 3) rfl) (ee_var (i := 4) rfl) (by walk_at "zz") T.m_list T.m_zip) eap_nil))) ?_) hp)
            unfold lawRead
            rw [if_pos h, if_neg hfk, if_pos hg, if_neg (by rw [hn]; exact Bool.false_ne_true), if_pos hv]
            show Tp [_, PyData.list (zipP (txts (keysOf t)) _)] = _
            rw [zipP_leaf]
            rfl
theorem ok__law_read (T : Tx K mg) : FnG P w K mg base CX0 3 T.a__law_read T.d__law_read ["text"] (SpD K (pureF R__law_read)) := by
  refine fnD_ok T.F__law_read sc__law_read (fun xs m Pp ⟨d, h, _⟩ => by cases h <;> rfl) (fun cdv A outer s H E rm xs m Pp ⟨d, hR, hp⟩ => ?_)
  cases hR with | @mk t ht hl =>
  refine wss_cons (ws_setE (i := 1) sc__law_read.nd (eg_call (ok__law_map_sheet T) (rm.mono (by decide)) T.m__law_map_sheet T.F__law_map_sheet.kp T.b__law_map_sheet (ea_cons (ee_var (i := 0) rfl) ea_nil) (by walk_at "call _law_map_sheet")) ?_)
  generalize lawRead t = o at hp ⊢
  cases o with
  | none => exact wss_one (ws_retE (ee_if (k := true) (et_cmp (ee_var (i := 1) rfl) ee_non (by walk_at "cd")) (fun _ => ee_non) (fun z => by cases z)) hp)
  | some s => exact wss_one (ws_retE (ee_if (k := false) (et_cmp (ee_var (i := 1) rfl) ee_non (by walk_at "cd")) (fun z => by cases z) (fun _ => (ee_tup (eap_cons (ee_sub (ee_var (i := 1) rfl) ee_int (fun m => by walk_at "sd")) (eap_cons (ee_callTy (ea_cons (ee_sub (ee_var (i := 1) rfl) ee_int (fun m => by walk_at "sd")) ea_nil) (fun m => by walk_at "ca") T.m_tuple bo_tuple) eap_nil))))) hp)
theorem ok__law_is_specified (T : Tx K mg) : FnG P w K mg base CX0 1 T.a__law_is_specified T.d__law_is_specified ["text"] (SpD K (pureF R__law_is_specified)) := by
  refine fnD_ok T.F__law_is_specified sc__law_is_specified (fun xs m Pp ⟨d, h, _⟩ => by cases h <;> rfl) (fun cdv A outer s H E rm xs m Pp ⟨d, hR, hp⟩ => ?_)
  cases hR with | @mk t ht hl =>
  have hf := lns_few (t := t) hl
  have htw := lns_wrd ht hl
  exact wss_one (ws_retE (ee_not (ee_callB (ea_cons (ee_lcm (lns t) (fun w => S w) (fun w => PyData.bool (decide ((12 : Int) < (w.length : Int)) && Txt.isdigit ⟨w.toArray⟩)) [("word", 1)] rfl sc__law_is_specified.nd (EI.is (ei_lst (ee_meth PySem.F.plainAttrs_str PySem.F.slot_str_split PySem.F.type_str_split (ee_var (i := 0) rfl) (ea_cons (ee_strS (l := [10])) ea_nil) (fun m => by walk_at "md"))) (txts_sd (lns t))) (by walk_at "sz") (fun a ha s H Ce cl fp => (by
    have := (htw a ha).l
    exact (ee_and (ee_cmp (ee_callB (ea_cons (ee_var (i := 1) rfl) ea_nil) (fun m => by walk_at "ca") T.m_len bo_len) ee_int (by walk_at "cd")) (fun hk => (ee_one (ee_meth0 PySem.F.plainAttrs_str PySem.F.slot_str_isdigit PySem.F.type_str_isdigit (ee_var (i := 1) rfl) (fun m => by walk_at "md"))))))) (fun _ _ _ _ _ _ _ _ _ p => wg_name p sc__law_is_specified.nd) (blkOk_by (by rfl))) ea_nil) (fun m => by walk_at "ca") T.m_any bo_any)) hp)
end
end K76
end W9
namespace W9
namespace K76
open PySem PySem.Spec PyProof.Rows L2
local macro_rules | `(tactic| walk_at "sz") => `(tactic| first | assumption | omega | decide | (simp only [List.length_append, List.length_map, List.length_cons, List.length_nil]; omega) | (simp only [List.length_zip, List.length_drop, List.length_map, List.length_append, List.length_cons, List.length_nil]; omega))
local macro_rules | `(tactic| walk_at "bd") => `(tactic| first | exact bd_add | exact bd_sub | exact bd_mul (by omega) | exact bd_mod (by omega) | exact bd_pow (by omega) | exact bd_powX (by decide +kernel) | exact bd_mod (by decide +kernel) | exact bd_mulB | exact bd_div (by omega) | exact bd_mulS ⟨by omega, by omega, by omega⟩ | exact bd_addS (by walk_at "sz") | exact bd_catL (by walk_at "sz"))
local macro_rules | `(tactic| walk_at "cd") => `(tactic| first | exact cd_lt | exact cd_le | exact cd_gt | exact cd_ge | exact cd_eq | exact cd_ne | exact cd_noneInF ‹Rm 0 _› | exact cd_neL ‹Rm 0 _› (by walk_at "pl") (by walk_at "pl") | exact cd_notinTs | exact cd_inTs ‹Rm 0 _› (by walk_at "pc") (by walk_at "pl") | exact cd_inS | exact cd_isN | exact cd_notN | exact cd_eqS | exact cd_neS | exact cd_ltS | exact cd_leS | exact cd_gtS)
local macro_rules | `(tactic| walk_at "md") => `(tactic| first | exact md_split (by walk_at "sz") | exact md_isdigit | exact md_joinS (by walk_at "sz"))
local macro_rules | `(tactic| walk_at "sd") => `(tactic| first | exact sd_ints (l := [2147483647, 2147483629, 2147483587, 2147483579, 2147483563]) (by omega) (by simp only [List.length_cons, List.length_nil]; omega) | exact sd_lst (at_nn (by decide) (txts_get (lns_head _))) | exact sd_lst rfl | exact sd_tup rfl)
local macro_rules | `(tactic| walk_at "sl") => `(tactic| first | exact sl_L | exact sl_S (by walk_at "sz"))
local macro_rules | `(tactic| walk_at "rg") => `(tactic| omega)
local macro_rules | `(tactic| walk_at "ca") => `(tactic| first | exact ca_isiStr | exact ca_isiII | exact ca_isiIB | exact ca_isiTT | exact ca_isiIT | exact ca_isiST | exact ca_allm rfl | exact ca_anym rfl | exact ca_lenS (by walk_at "sz") | exact ca_lenL | exact ca_lenT | exact ca_tupL | exact ca_int | exact ca_intB | exact ca_strI (by walk_at "sz") | exact ca_abs | exact ca_max2 rfl | exact ca_min2 rfl)
local macro_rules | `(tactic| walk_at "fl") => `(tactic| first | rfl | simp)
local macro_rules | `(tactic| walk_at "rep") => `(tactic| assumption)
local macro_rules | `(tactic| walk_at "zz") => `(tactic| exact Nat.le_trans (Nat.min_le_right _ _) (by simp only [List.length_map]; omega))
local macro_rules | `(tactic| walk_at "call is_sheet") => `(tactic| exact .mk (by assumption))
local macro_rules | `(tactic| walk_at "ss") => `(tactic| walk_at "sz")
local macro_rules | `(tactic| walk_at "pl") => `(tactic| assumption)
local macro_rules | `(tactic| walk_at "pc") => `(tactic| assumption)
local macro_rules | `(tactic| walk_at "call is_whole") => `(tactic| exact .mk)
local macro_rules | `(tactic| walk_at "call is_integer") => `(tactic| exact .mk)
local macro_rules | `(tactic| walk_at "call is_tuple") => `(tactic| first | exact .tup | exact .int)
local macro_rules | `(tactic| walk_at "call is_string") => `(tactic| first | exact .new | exact .kd)
local macro_rules | `(tactic| walk_at "call is_page_text") => `(tactic| exact .mk (by assumption) (by assumption))
local macro_rules | `(tactic| walk_at "call is_child") => `(tactic| first | exact .n | exact .nw)
local macro_rules | `(tactic| walk_at "call sheet_of") => `(tactic| exact .mk (by assumption) (by assumption))
local macro_rules | `(tactic| walk_at "call sheet_in") => `(tactic| exact .mk (by assumption) (by assumption))
local macro_rules | `(tactic| walk_at "call _law_map_sheet") => `(tactic| exact .mk (by assumption) (by assumption))
local macro_rules | `(tactic| walk_at "call _law_read") => `(tactic| exact .mk (by assumption) (by assumption))
local macro_rules | `(tactic| walk_at "call _law_is_specified") => `(tactic| exact .mk (by assumption) (by assumption))
local macro_rules | `(tactic| walk_at "call sheet_text") => `(tactic| exact .mk (by assumption) (by assumption) (by assumption) (by assumption))
local macro_rules | `(tactic| walk_at "call _law_text") => `(tactic| exact .mk (by assumption) (by assumption) (by assumption) (by assumption))
local macro_rules | `(tactic| walk_at "call are_signs") => `(tactic| exact .mk (by assumption))
local macro_rules | `(tactic| walk_at "call is_key") => `(tactic| first | exact .mk (by assumption) | exact .mk (by solve_by_elim) | exact .mk (by walk_at "wd"))
local macro_rules | `(tactic| walk_at "call is_value") => `(tactic| first | exact .mk (by assumption) | exact .mk (by solve_by_elim) | exact .mk (by walk_at "wd"))
local macro_rules | `(tactic| walk_at "call long_whole_in") => `(tactic| exact .mk (by assumption))
local macro_rules | `(tactic| walk_at "call whole_in") => `(tactic| first | exact .mk (by assumption) | exact .mk (by solve_by_elim) | exact .mk (by walk_at "wd"))
local macro_rules | `(tactic| walk_at "call _law_map_is_key") => `(tactic| first | exact .mk (by assumption) | exact .mk (by solve_by_elim) | exact .mk (by walk_at "wd"))
local macro_rules | `(tactic| walk_at "call _law_map_is_value") => `(tactic| first | exact .mk (by assumption) | exact .mk (by solve_by_elim) | exact .mk (by walk_at "wd"))
local macro_rules | `(tactic| walk_at "call _law_map_number") => `(tactic| first | exact .mk (by assumption) | exact .mk (by solve_by_elim) | exact .mk (by walk_at "wd"))
local macro_rules | `(tactic| walk_at "call _law_cells") => `(tactic| exact .mk)

inductive F__law_take : FT
  | mk {p : Addr} {a b c n : Int} {m : MS} {P : SD → MS → Prop} (ha : 0 ≤ a) (hb : PB b) (hc : 0 ≤ c ∧ c ≤ 100000) (hn : 0 < n ∧ n < 1073741824) (hpf : p ∉ ad m)
      (h : ∀ d a' c' : Int, (0 ≤ d ∧ d < n) → 0 ≤ a' → (0 ≤ c' ∧ c' ≤ c + 1) → P (I d) (Pt p a' b c' :: m)) : F__law_take [.raw (.ref p), I n] (Pt p a b c :: m) P
inductive F__law_of : FT
  | mk {p : Addr} {a b c : Int} {l : List PyData} {m : MS} {P : SD → MS → Prop} (ha : 0 ≤ a) (hb : PB b) (hc : 0 ≤ c ∧ c ≤ 100000) (hl : 0 < l.length ∧ l.length < 1000000) (hpf : p ∉ ad m)
      (h : ∀ (d : PyData) (a' c' : Int), d ∈ l → 0 ≤ a' → (0 ≤ c' ∧ c' ≤ c + 1) → P (.py d) (Pt p a' b c' :: m)) : F__law_of [.raw (.ref p), Ls l] (Pt p a b c :: m) P
  | tx {p : Addr} {a b c : Int} {l : List Nat} {m : MS} {P : SD → MS → Prop} (ha : 0 ≤ a) (hb : PB b) (hc : 0 ≤ c ∧ c ≤ 100000) (hl : 0 < l.length ∧ l.length < 1000000) (hpf : p ∉ ad m)
      (h : ∀ (x : Nat) (a' c' : Int), x ∈ l → 0 ≤ a' → (0 ≤ c' ∧ c' ≤ c + 1) → P (S [x]) (Pt p a' b c' :: m)) : F__law_of [.raw (.ref p), S l] (Pt p a b c :: m) P
inductive F__law_pot : FT
  | mk {ns : List Int} {k : Nat} {m : MS} {P : SD → MS → Prop} (hl : ns.length ≤ 63) (hk : k ≤ 1000) (h : ∀ (p : Addr) (a b : Int), p ∉ ad m → 0 ≤ a → PB b → P (.raw (.ref p)) (Pt p a b 0 :: m)) : F__law_pot [Ls (ns.map .int), I k] m P
section
variable {P : Program} {w : World} {K : PySem.W.Frag} {mg : Str → Option Value} {base : Heap}
theorem ok__law_take (T : Tx K mg) : FnG P w K mg base CX0 1 T.a__law_take T.d__law_take ["pot", "upto"] (SpD K F__law_take) := by
  refine fnD_ok T.F__law_take sc__law_take (fun xs m Pp h => by cases h <;> rfl) (fun cdv A outer s H E rm xs m Pp hF => ?_)
  cases hF with | @mk p a b c n m Pp ha hb hc hn hpf h =>
  refine wss_cons (ws_if (wt_view (i := 0) (l := [.int a, .int b, .int c]) rfl List.mem_cons_self (et_cmp (ee_sub (ee_var (i := 0) rfl) ee_int (fun m => by walk_at "sd")) ee_int (by walk_at "cd")) ?_))
  by_cases hpos : 0 < a
  · rw [if_pos (decide_eq_true hpos)]
    refine wss_cons (ws_set (i := 2) sc__law_take.nd (we_view (i := 0) (l := [.int a, .int b, .int c]) rfl List.mem_cons_self (ee_bin (ee_callTy (ea_cons (ee_sub (ee_var (i := 0) rfl) ee_int (fun m => by walk_at "sd")) ea_nil) (fun m => by walk_at "ca") T.m_int bo_int) (ee_var (i := 1) rfl) (by walk_at "bd")) sc_int ?_))
    refine wss_cons (ws_storeV (i := 0) (l := [.int a, .int b, .int c]) (j := 0) hpf rfl (ee_var (i := 0) rfl) ee_int (ee_bin (ee_sub (ee_var (i := 0) rfl) ee_int (fun m => by walk_at "sd")) (ee_var (i := 1) rfl) (by walk_at "bd")) sc_int (by decide) (by simp) ?_)
    exact wss_one (ws_retE (ee_var (i := 2) rfl) (h _ _ _ ⟨Int.emod_nonneg _ (by omega), Int.emod_lt_of_pos _ hn.1⟩ (Int.ediv_nonneg ha (by omega)) ⟨hc.1, by omega⟩))
  · rw [if_neg (by rw [decide_eq_true_eq]; exact hpos)]
    refine wss_nil (wss_cons (ws_storeV (i := 0) (l := [.int a, .int b, .int c]) (j := 2) hpf rfl (ee_var (i := 0) rfl) ee_int (ee_bin (ee_sub (ee_var (i := 0) rfl) ee_int (fun m => by walk_at "sd")) ee_int (by walk_at "bd")) sc_int (by decide) (by simp) ?_))
    refine wss_cons (ws_set (i := 3) sc__law_take.nd (we_view (i := 0) (l := [.int a, .int b, .int (c + 1)]) rfl List.mem_cons_self (ee_sub (ee_lst (eap_cons ee_int (eap_cons ee_int (eap_cons ee_int (eap_cons ee_int (eap_cons ee_int eap_nil)))))) (ee_bin (ee_callTy (ea_cons (ee_sub (ee_var (i := 0) rfl) ee_int (fun m => by walk_at "sd")) ea_nil) (fun m => by walk_at "ca") T.m_int bo_int) ee_int (by walk_at "bd")) (fun m => by walk_at "sd")) sc_int ?_))
    have hpr := prs_pos (c + 1)
    generalize prs.getD ((c + 1) % 5).toNat 0 = pr at *
    have hq := sq_le (k := 104728) (c := c + 1) (by decide) (by omega)
    obtain ⟨hb1, hb2⟩ := id hb
    refine wss_cons (ws_set (i := 4) sc__law_take.nd (we_view (i := 0) (l := [.int a, .int b, .int (c + 1)]) rfl List.mem_cons_self (ee_bin (ee_callTy (ea_cons (ee_bin (ee_callTy (ea_cons (ee_bin (ee_bin (ee_sub (ee_var (i := 0) rfl) ee_int (fun m => by walk_at "sd")) (ee_bin (ee_bin ee_int (ee_sub (ee_var (i := 0) rfl) ee_int (fun m => by walk_at "sd")) (by walk_at "bd")) (ee_sub (ee_var (i := 0) rfl) ee_int (fun m => by walk_at "sd")) (by walk_at "bd")) (by walk_at "bd")) ee_int (by walk_at "bd")) ea_nil) (fun m => by walk_at "ca") T.m_int bo_int) ee_int (by walk_at "bd")) ea_nil) (fun m => by walk_at "ca") T.m_int bo_int) (ee_var (i := 3) rfl) (by walk_at "bd")) sc_int ?_))
    generalize hbl : _ % pr = bl
    have hbl1 : 0 ≤ bl := by rw [← hbl]; exact Int.emod_nonneg _ (by omega)
    have hbl2 : bl < pr := by rw [← hbl]; exact Int.emod_lt_of_pos _ hpr.1
    refine wss_cons (ws_set (i := 4) sc__law_take.nd (we_view (i := 0) (l := [.int a, .int b, .int (c + 1)]) rfl List.mem_cons_self (ee_bin (ee_callTy (ea_cons (ee_bin (ee_var (i := 4) rfl) (ee_bin (ee_bin (ee_callTy (ea_cons (ee_var (i := 4) rfl) ea_nil) (fun m => by walk_at "ca") T.m_int bo_int) ee_int (by walk_at "bd")) (ee_bin ee_int (ee_sub (ee_var (i := 0) rfl) ee_int (fun m => by walk_at "sd")) (by walk_at "bd")) (by walk_at "bd")) (by walk_at "bd")) ea_nil) (fun m => by walk_at "ca") T.m_int bo_int) ee_int (by walk_at "bd")) sc_int ?_))
    exact wss_one (ws_retE (ee_bin (ee_callTy (ea_cons (ee_bin (ee_var (i := 4) rfl) ee_int (by walk_at "bd")) ea_nil) (fun m => by walk_at "ca") T.m_int bo_int) (ee_var (i := 1) rfl) (by walk_at "bd")) (h _ _ _ ⟨Int.emod_nonneg _ (by omega), Int.emod_lt_of_pos _ hn.1⟩ ha ⟨by omega, by omega⟩))
theorem ok__law_of (T : Tx K mg) : FnG P w K mg base CX0 2 T.a__law_of T.d__law_of ["pot", "some"] (SpD K F__law_of) := by
  refine fnD_ok T.F__law_of sc__law_of (fun xs m Pp h => by cases h <;> rfl) (fun cdv A outer s H E rm xs m Pp hF => ?_)
  cases hF with
  | @tx p a b c l m Pp ha hb hc hl hpf h =>
    exact wss_one (ws_ret (we_sub (EE.to (ee_var (i := 1) rfl) (wg_call (ok__law_take T) (rm.mono (by decide)) T.m__law_take T.F__law_take.kp T.b__law_take (EA.to (ea_cons (ee_var (i := 0) rfl) (ea_cons (ee_callB (ea_cons (ee_var (i := 1) rfl) ea_nil) (fun m => by walk_at "ca") T.m_len bo_len) ea_nil)) ⟨[], _, rfl, .mk ha hb hc ⟨by omega, by omega⟩ hpf fun d a' c' h1 h2 h3 => ⟨S [l[d.toNat]'(by omega)], sd_str (at_nn h1.1 (List.getElem?_eq_getElem _)) (by omega), h _ _ _ (List.getElem_mem _) h2 h3⟩⟩)))))
  | @mk p a b c l m Pp ha hb hc hl hpf h =>
  exact wss_one (ws_ret (we_sub (EE.to (ee_var (i := 1) rfl) (wg_call (ok__law_take T) (rm.mono (by decide)) T.m__law_take T.F__law_take.kp T.b__law_take (EA.to (ea_cons (ee_var (i := 0) rfl) (ea_cons (ee_callB (ea_cons (ee_var (i := 1) rfl) ea_nil) (fun m => by walk_at "ca") T.m_len bo_len) ea_nil)) ⟨[], _, rfl, .mk ha hb hc ⟨by omega, by omega⟩ hpf fun d a' c' h1 h2 h3 => ⟨.py (l[d.toNat]'(by omega)), sd_lst (at_nn h1.1 (List.getElem?_eq_getElem _)), h _ _ _ (List.getElem_mem _) h2 h3⟩⟩)))))
theorem ok__law_pot (T : Tx K mg) : FnG P w K mg base CX0 1 T.a__law_pot T.d__law_pot ["script", "place"] (SpD K F__law_pot) := by
  refine fnD_ok T.F__law_pot sc__law_pot (fun xs m Pp h => by cases h <;> rfl) (fun cdv A outer s H E rm xs m Pp hF => ?_)
  cases hF with | @mk ns k m Pp hl hk h =>
  refine wss_cons (ws_setE (i := 2) sc__law_pot.nd (d := I (if k < ns.length then ns.getD k 0 else (cut ns none (some 1)).sum % 1000003 + 2314 * (k : Int) + 1376))
    (ee_if (et_cmp (ee_var (i := 1) rfl) (ee_callB (ea_cons (ee_var (i := 0) rfl) ea_nil) (fun m => by walk_at "ca") T.m_len bo_len) (by walk_at "cd")) (fun hh => ?_) (fun hh => ?_)) ?_)
  · have h1 : k < ns.length := by
      have := of_decide_eq_true hh
      rw [List.length_map] at this
      omega
    refine EE.is (ee_sub (EE.is (ee_var (i := 0) rfl) rfl) (ee_var (i := 1) rfl) (fun m => sd_ints (l := ns) (by omega) (by omega))) ?_
    rw [if_pos h1, Int.toNat_natCast]
  · have h1 : ¬ k < ns.length := by
      have := of_decide_eq_false hh
      rw [List.length_map] at this
      omega
    refine EE.is (ee_bin (ee_bin (ee_bin (ee_callB (ea_cons (EE.is (d' := Ls ((cut ns none (some 1)).map .int)) (ee_slice (ee_var (i := 0) rfl) eo_none (eo_some ee_int) (fun m => by walk_at "sl")) (by rw [cut_map])) ea_nil) (fun m => ca_sum rfl) T.m_sum bo_sum) ee_int (by walk_at "bd")) (ee_bin ee_int (ee_var (i := 1) rfl) (by walk_at "bd")) (by walk_at "bd")) ee_int (by walk_at "bd")) ?_
    rw [if_neg h1]
  · generalize (if k < ns.length then ns.getD k 0 else (cut ns none (some 1)).sum % 1000003 + 2314 * (k : Int) + 1376) = cell
    refine wss_cons (ws_setE (i := 3) sc__law_pot.nd (ee_bin (ee_bin (ee_callTy (ea_cons (ee_callB (ea_cons (ee_var (i := 2) rfl) ea_nil) (fun m => by walk_at "ca") T.m_abs bo_abs) ea_nil) (fun m => by walk_at "ca") T.m_int bo_int) (ee_bin (ee_bin ee_int ee_int (by walk_at "bd")) ee_int (by walk_at "bd")) (by walk_at "bd")) (ee_callTy (ea_cons (ee_cmp (ee_callB (ea_cons (ee_var (i := 2) rfl) ea_nil) (fun m => by walk_at "ca") T.m_abs bo_abs) (ee_bin ee_int ee_int (by walk_at "bd")) (by walk_at "cd")) ea_nil) (fun m => by walk_at "ca") T.m_int bo_int) (by walk_at "bd")) ?_)
    refine wss_cons (ws_setE (i := 4) sc__law_pot.nd (ee_bin (ee_callTy (ea_cons (ee_var (i := 2) rfl) ea_nil) (fun m => by walk_at "ca") T.m_int bo_int) ee_int (by walk_at "bd")) ?_)
    refine wss_one (ws_ret (we_lstN (EA.to ((ea_cons (ee_var (i := 3) rfl) (ea_cons (ee_bin (ee_callTy (ea_cons (ee_bin (ee_bin (ee_bin (ee_var (i := 4) rfl) ee_int (by walk_at "bd")) (ee_bin (ee_bin ee_int (ee_var (i := 1) rfl) (by walk_at "bd")) (ee_var (i := 1) rfl) (by walk_at "bd")) (by walk_at "bd")) ee_int (by walk_at "bd")) ea_nil) (fun m => by walk_at "ca") T.m_int bo_int) ee_int (by walk_at "bd")) (ea_cons ee_int ea_nil)))) ⟨[.int _, .int _, .int 0], rfl, by simp, fun p hpf => h p _ _ hpf ?_ ?_⟩)))
    · refine Int.mul_nonneg (Int.emod_nonneg _ (by decide +kernel)) ?_
      (repeat' split) <;> decide
    · exact ⟨Int.emod_nonneg _ (by decide), Int.emod_lt_of_pos _ (by decide)⟩
end
end K76
end W9
namespace W9
namespace K76
open PySem PySem.Spec PyProof.Rows L2
local macro_rules | `(tactic| walk_at "sz") => `(tactic| first | assumption | omega | decide | (simp only [List.length_append, List.length_map, List.length_cons, List.length_nil]; omega) | (simp only [List.length_zip, List.length_drop, List.length_map, List.length_append, List.length_cons, List.length_nil]; omega))
local macro_rules | `(tactic| walk_at "bd") => `(tactic| first | exact bd_add | exact bd_sub | exact bd_mul (by omega) | exact bd_mod (by omega) | exact bd_pow (by omega) | exact bd_powX (by decide +kernel) | exact bd_mod (by decide +kernel) | exact bd_mulB | exact bd_div (by omega) | exact bd_mulS ⟨by omega, by omega, by omega⟩ | exact bd_addS (by walk_at "sz") | exact bd_catL (by walk_at "sz"))
local macro_rules | `(tactic| walk_at "cd") => `(tactic| first | exact cd_lt | exact cd_le | exact cd_gt | exact cd_ge | exact cd_eq | exact cd_ne | exact cd_noneInF ‹Rm 0 _› | exact cd_neL ‹Rm 0 _› (by walk_at "pl") (by walk_at "pl") | exact cd_notinTs | exact cd_inTs ‹Rm 0 _› (by walk_at "pc") (by walk_at "pl") | exact cd_inS | exact cd_isN | exact cd_notN | exact cd_eqS | exact cd_neS | exact cd_ltS | exact cd_leS | exact cd_gtS)
local macro_rules | `(tactic| walk_at "md") => `(tactic| first | exact md_split (by walk_at "sz") | exact md_isdigit | exact md_joinS (by walk_at "sz"))
local macro_rules | `(tactic| walk_at "sd") => `(tactic| first | exact sd_ints (l := [2147483647, 2147483629, 2147483587, 2147483579, 2147483563]) (by omega) (by simp only [List.length_cons, List.length_nil]; omega) | exact sd_lst (at_nn (by decide) (txts_get (lns_head _))) | exact sd_lst rfl | exact sd_tup rfl)
local macro_rules | `(tactic| walk_at "sl") => `(tactic| first | exact sl_L | exact sl_S (by walk_at "sz"))
local macro_rules | `(tactic| walk_at "rg") => `(tactic| omega)
local macro_rules | `(tactic| walk_at "ca") => `(tactic| first | exact ca_isiStr | exact ca_isiII | exact ca_isiIB | exact ca_isiTT | exact ca_isiIT | exact ca_isiST | exact ca_allm rfl | exact ca_anym rfl | exact ca_lenS (by walk_at "sz") | exact ca_lenL | exact ca_lenT | exact ca_tupL | exact ca_int | exact ca_intB | exact ca_strI (by walk_at "sz") | exact ca_abs | exact ca_max2 rfl | exact ca_min2 rfl)
local macro_rules | `(tactic| walk_at "fl") => `(tactic| first | rfl | simp)
local macro_rules | `(tactic| walk_at "rep") => `(tactic| assumption)
local macro_rules | `(tactic| walk_at "zz") => `(tactic| exact Nat.le_trans (Nat.min_le_right _ _) (by simp only [List.length_map]; omega))
local macro_rules | `(tactic| walk_at "call is_sheet") => `(tactic| exact .mk (by assumption))
local macro_rules | `(tactic| walk_at "ss") => `(tactic| walk_at "sz")
local macro_rules | `(tactic| walk_at "pl") => `(tactic| assumption)
local macro_rules | `(tactic| walk_at "pc") => `(tactic| assumption)
local macro_rules | `(tactic| walk_at "call is_whole") => `(tactic| exact .mk)
local macro_rules | `(tactic| walk_at "call is_integer") => `(tactic| exact .mk)
local macro_rules | `(tactic| walk_at "call is_tuple") => `(tactic| first | exact .tup | exact .int)
local macro_rules | `(tactic| walk_at "call is_string") => `(tactic| first | exact .new | exact .kd)
local macro_rules | `(tactic| walk_at "call is_page_text") => `(tactic| exact .mk (by assumption) (by assumption))
local macro_rules | `(tactic| walk_at "call is_child") => `(tactic| first | exact .n | exact .nw)
local macro_rules | `(tactic| walk_at "call sheet_of") => `(tactic| exact .mk (by assumption) (by assumption))
local macro_rules | `(tactic| walk_at "call sheet_in") => `(tactic| exact .mk (by assumption) (by assumption))
local macro_rules | `(tactic| walk_at "call _law_map_sheet") => `(tactic| exact .mk (by assumption) (by assumption))
local macro_rules | `(tactic| walk_at "call _law_read") => `(tactic| exact .mk (by assumption) (by assumption))
local macro_rules | `(tactic| walk_at "call _law_is_specified") => `(tactic| exact .mk (by assumption) (by assumption))
local macro_rules | `(tactic| walk_at "call sheet_text") => `(tactic| exact .mk (by assumption) (by assumption) (by assumption) (by assumption))
local macro_rules | `(tactic| walk_at "call _law_text") => `(tactic| exact .mk (by assumption) (by assumption) (by assumption) (by assumption))
local macro_rules | `(tactic| walk_at "call are_signs") => `(tactic| exact .mk (by assumption))
local macro_rules | `(tactic| walk_at "call is_key") => `(tactic| first | exact .mk (by assumption) | exact .mk (by solve_by_elim) | exact .mk (by walk_at "wd"))
local macro_rules | `(tactic| walk_at "call is_value") => `(tactic| first | exact .mk (by assumption) | exact .mk (by solve_by_elim) | exact .mk (by walk_at "wd"))
local macro_rules | `(tactic| walk_at "call long_whole_in") => `(tactic| exact .mk (by assumption))
local macro_rules | `(tactic| walk_at "call whole_in") => `(tactic| first | exact .mk (by assumption) | exact .mk (by solve_by_elim) | exact .mk (by walk_at "wd"))
local macro_rules | `(tactic| walk_at "call _law_map_is_key") => `(tactic| first | exact .mk (by assumption) | exact .mk (by solve_by_elim) | exact .mk (by walk_at "wd"))
local macro_rules | `(tactic| walk_at "call _law_map_is_value") => `(tactic| first | exact .mk (by assumption) | exact .mk (by solve_by_elim) | exact .mk (by walk_at "wd"))
local macro_rules | `(tactic| walk_at "call _law_map_number") => `(tactic| first | exact .mk (by assumption) | exact .mk (by solve_by_elim) | exact .mk (by walk_at "wd"))
local macro_rules | `(tactic| walk_at "call _law_cells") => `(tactic| exact .mk)

inductive F__law_map_key_drawn : FT
  | mk {p : Addr} {a b c : Int} {m : MS} {P : SD → MS → Prop} (ha : 0 ≤ a) (hb : PB b) (hc : 0 ≤ c ∧ c ≤ 90000) (hpf : p ∉ ad m)
      (h : ∀ (w : List Nat) (a' c' : Int), Wrd w → kOk w = true → 0 ≤ a' → (0 ≤ c' ∧ c' ≤ c + 20) → P (S w) (Pt p a' b c' :: m)) : F__law_map_key_drawn [.raw (.ref p)] (Pt p a b c :: m) P
inductive F__law_map_value_drawn : FT
  | mk {p : Addr} {a b c : Int} {m : MS} {P : SD → MS → Prop} (ha : 0 ≤ a) (hb : PB b) (hc : 0 ≤ c ∧ c ≤ 90000) (hpf : p ∉ ad m)
      (h : ∀ (w : List Nat) (a' c' : Int), Wrd w → vOk w = true → 0 ≤ a' → (0 ≤ c' ∧ c' ≤ c + 20) → P (S w) (Pt p a' b c' :: m)) : F__law_map_value_drawn [.raw (.ref p)] (Pt p a b c :: m) P
section
variable {P : Program} {w : World} {K : PySem.W.Frag} {mg : Str → Option Value} {base : Heap}
theorem ok__law_map_key_drawn (T : Tx K mg) : FnG P w K mg base CX0 3 T.a__law_map_key_drawn T.d__law_map_key_drawn ["pot"] (SpD K F__law_map_key_drawn) := by
  refine fnD_ok T.F__law_map_key_drawn sc__law_map_key_drawn (fun xs m Pp h => by cases h <;> rfl) (fun cdv A outer s H E rm xs m Pp hF => ?_)
  cases hF with | @mk p a b c m Pp ha hb hc hpf h =>
  refine wss_cons (ws_set (i := 1) sc__law_map_key_drawn.nd (wg_call (ok__law_take T) (rm.mono (by decide)) T.m__law_take T.F__law_take.kp T.b__law_take (EA.to (ea_cons (ee_var (i := 0) rfl) (ea_cons ee_int ea_nil)) ⟨[], _, rfl, .mk ha hb ⟨hc.1, by omega⟩ (by decide) hpf fun way a1 c1 h1 h2 h3 => ?_⟩)))
  refine wss_cons (ws_ife (et_cmp (ee_var (i := 1) rfl) ee_int (by walk_at "cd")) (fun hw => ?_) fun hw => wss_nil ?_)
  · refine wss_cons (ws_setE (i := 2) sc__law_map_key_drawn.nd (ee_strS (l := [33, 34, 35, 36, 38, 39, 40, 41, 42, 43, 44, 45, 46, 47, 48, 49, 50, 51, 52, 53, 54, 55, 56, 57, 58, 59, 60, 61, 62, 63, 64, 91, 92, 93, 94, 95, 96, 123, 124, 125, 126])) ?_)
    refine wss_cons (ws_setE (i := 2) sc__law_map_key_drawn.nd (EE.is (ee_bin (ee_var (i := 2) rfl) (ee_strS (l := [65, 66, 67, 68, 69, 70, 71, 72, 73, 74, 75, 76, 77, 78, 79, 80, 81, 82, 83, 84, 85, 86, 87, 88, 89, 90, 97, 98, 99, 100, 101, 102, 103, 104, 105, 106, 107, 108, 109, 110, 111, 112, 113, 114, 115, 116, 117, 118, 119, 120, 121, 122])) (by walk_at "bd")) (show _ = S (sigK ++ sigL) from rfl)) ?_)
    have hsl : (sigK ++ sigL).length = 93 := by decide
    refine wss_one (ws_ret (we_meth PySem.F.plainAttrs_str PySem.F.slot_str_join PySem.F.type_str_join (ee_strS (l := [])) (fun m => ty_str) (wa_cons
      (we_lcI (fun i acc m' => ∃ (t : List Nat) (a' c' : Int), Sg 33 t ∧ t.length = i ∧ acc = t.map sgn ∧ 0 ≤ a' ∧ (0 ≤ c' ∧ c' ≤ c1 + 1 + i) ∧ m' = Pt p a' b c' :: m) [("lap", 3)] rfl sc__law_map_key_drawn.nd
        (wi_range1 (we_bin (EE.to ee_int (wg_call (ok__law_take T) (rm.mono (by decide)) T.m__law_take T.F__law_take.kp T.b__law_take (EA.to (ea_cons (ee_var (i := 0) rfl) (ea_cons ee_int ea_nil)) ⟨[], _, rfl, .mk h2 hb ⟨h3.1, by omega⟩ (by decide) hpf fun d a2 c2 h4 h5 h6 => ⟨_, bd_add, _, rfl, by omega, by rw [List.length_map, List.length_range]; omega, ⟨[], a2, c2, Sg.nil, rfl, rfl, h5, ⟨h6.1, by omega⟩, rfl⟩, ?_, ?_⟩⟩)))) T.m_range)
        (fun _ _ _ _ _ _ _ _ _ p => wg_name p sc__law_map_key_drawn.nd) (blkOk_by (by rfl))))))
    · rintro i y acc m' hy hi ⟨t, a3, c3, ht, hlen, rfl, ha3, hc3, rfl⟩ s H Ce cl fp
      have hlt := get_lt hy
      rw [List.length_map, List.length_range] at hlt
      refine (wg_call (ok__law_of T) (rm.mono (by decide)) T.m__law_of T.F__law_of.kp T.b__law_of (EA.to (ea_cons (ee_var (i := 0) rfl) (ea_cons (ee_var (i := 2) rfl) ea_nil)) ⟨[], _, rfl, .tx ha3 hb ⟨hc3.1, by omega⟩ (by rw [hsl]; decide) hpf fun x a4 c4 h7 h8 h9 => ?_⟩))
      exact ⟨_, rfl, t ++ [x], a4, c4, ht.app (Sg.one sig_k h7), by rw [List.length_append, hlen]; rfl, by rw [List.map_append]; rfl, h8, ⟨h9.1, by omega⟩, rfl⟩
    · rintro acc m' hi ⟨t, a3, c3, ht, hlen, rfl, ha3, hc3, rfl⟩
      rw [List.length_map, List.length_range] at hlen hc3
      exact wa_nil ⟨_, md_joinS (by omega), h t a3 c3 (ht.wrd (by omega)) (ht.ok (by omega) (by omega)) ha3 ⟨hc3.1, by omega⟩⟩
  · refine wss_cons (ws_ife (et_cmp (ee_var (i := 1) rfl) ee_int (by walk_at "cd")) (fun hw2 => ?_) fun hw2 => wss_nil ?_)
    · refine wss_one (ws_ret (wg_call (ok__law_of T) (rm.mono (by decide)) T.m__law_of T.F__law_of.kp T.b__law_of (EA.to (ea_cons (ee_var (i := 0) rfl) (ea_cons (ee_lst (eap_cons (ee_strS (l := [33])) (eap_cons (ee_strS (l := [126])) (eap_cons (ee_strS (l := [108])) (eap_cons (ee_strS (l := [102])) (eap_cons (ee_strS (l := [48])) (eap_cons (ee_strS (l := [114, 111, 111, 116])) (eap_cons (ee_strS (l := [110, 48, 48, 48, 49])) (eap_cons (ee_strS (l := [122, 122, 122, 122, 122, 122, 122, 122, 122, 122, 122, 122, 122])) eap_nil))))))))) ea_nil)) ⟨[], _, rfl, .mk h2 hb ⟨h3.1, by omega⟩ (by simp) hpf fun d a2 c2 h4 h5 h6 => ?_⟩)))
      obtain ⟨w, hw3, rfl⟩ := mem_txts (ls := keyC) h4
      exact h w a2 c2 (key_const hw3).1 (key_const hw3).2 h5 ⟨h6.1, by omega⟩
    · refine wss_one (ws_ret (we_bin (we_bin (wg_call (ok__law_of T) (rm.mono (by decide)) T.m__law_of T.F__law_of.kp T.b__law_of (EA.to (ea_cons (ee_var (i := 0) rfl) (ea_cons (ee_strS (l := [97, 98, 99, 100, 107, 122])) ea_nil)) ⟨[], _, rfl, .tx h2 hb ⟨h3.1, by omega⟩ (by simp) hpf fun x a2 c2 h4 h5 h6 => ?_⟩)))))
      refine we_callTy (wa_cons (wg_call (ok__law_take T) (rm.mono (by decide)) T.m__law_take T.F__law_take.kp T.b__law_take (EA.to (ea_cons (ee_var (i := 0) rfl) (ea_cons ee_int ea_nil)) ⟨[], _, rfl, .mk h5 hb ⟨h6.1, by omega⟩ (by decide) hpf fun d a3 c3 h7 h8 h9 => ?_⟩))) T.m_str bo_str
      obtain ⟨n1, n2, n3⟩ := Sg.num (i := d) h7.1 (by omega)
      have hd2 : d.natAbs < 2 ^ 60 := by omega
      refine wa_nil ⟨_, ca_strI hd2, _, bd_addS (a := [x]) (b := intS d) (by simp only [List.length_cons, List.length_nil]; omega), ?_⟩
      have n4 := Sg.num1 (i := d) h7.1 (by omega)
      obtain ⟨k, hk, hk2⟩ : ∃ k : Int, (if decide (way = 1) = true then (1 : Int) else 0) = k ∧ (0 ≤ k ∧ k ≤ 1) := ⟨_, rfl, by split <;> omega⟩
      have hrl : (rep (11 * k).toNat [33]).length ≤ 11 := by
        rw [rep_length]
        simp only [List.length_cons, List.length_nil]
        omega
      refine EE.to (ee_bin (ee_strS (l := [33])) (ee_bin ee_int (EE.is (ee_callTy (ea_cons (ee_cmp (ee_var (i := 1) rfl) ee_int (by walk_at "cd")) ea_nil) (fun m => by walk_at "ca") T.m_int bo_int) (I_eq hk)) (by walk_at "bd")) (bd_mulS ⟨by omega, by omega, by simp only [List.length_cons, List.length_nil]; omega⟩)) ⟨_, bd_addS (by simp only [List.length_append, List.length_cons, List.length_nil]; omega), h _ a3 c3 ?_ ?_ h8 ⟨h9.1, by omega⟩⟩
      · exact (((Sg.one sig_a h4).app n1).app Sg.rep).wrd (by simp only [List.length_append, List.length_cons, List.length_nil]; omega)
      · exact (((Sg.one sig_a h4).app n1).app Sg.rep).ok (by simp only [List.length_append, List.length_cons, List.length_nil]; omega) (by simp only [List.length_append, List.length_cons, List.length_nil]; omega)
theorem ok__law_map_value_drawn (T : Tx K mg) : FnG P w K mg base CX0 3 T.a__law_map_value_drawn T.d__law_map_value_drawn ["pot"] (SpD K F__law_map_value_drawn) := by
  refine fnD_ok T.F__law_map_value_drawn sc__law_map_value_drawn (fun xs m Pp h => by cases h <;> rfl) (fun cdv A outer s H E rm xs m Pp hF => ?_)
  cases hF with | @mk p a b c m Pp ha hb hc hpf h =>
  refine wss_cons (ws_setE (i := 1) sc__law_map_value_drawn.nd (ee_lst (eap_cons (ee_strS (l := [111, 110, 101])) (eap_cons (ee_strS (l := [32])) (eap_cons (ee_strS (l := [54])) (eap_cons (ee_strS (l := [45, 49])) (eap_cons (ee_strS (l := [116, 119, 111, 32, 119, 111, 114, 100, 115])) (eap_cons (ee_strS (l := [108])) (eap_cons (ee_strS (l := [126, 126, 126, 126, 126, 126, 126, 126, 126, 126, 126, 126, 126])) (eap_cons (ee_strS (l := [102, 32, 50, 32, 50])) eap_nil))))))))) ?_)
  refine wss_cons (ws_if (wt_cmp (wg_call (ok__law_take T) (rm.mono (by decide)) T.m__law_take T.F__law_take.kp T.b__law_take (EA.to (ea_cons (ee_var (i := 0) rfl) (ea_cons ee_int ea_nil)) ⟨[], _, rfl, .mk ha hb ⟨hc.1, by omega⟩ (by decide) hpf fun way a1 c1 h1 h2 h3 => EE.to ee_int ⟨_, cd_eq, ?_⟩⟩))))
  by_cases hw : way = 0
  · rw [if_pos (decide_eq_true hw)]
    refine wss_cons (ws_setE (i := 2) sc__law_map_value_drawn.nd (ee_strS (l := [32, 33, 34, 35, 36, 38, 39, 40, 41, 42, 43, 44, 45, 46, 47, 48, 49, 50, 51, 52, 53, 54, 55, 56, 57, 58, 59, 60, 61, 62, 63, 64, 91, 92, 93, 94, 95, 96, 123, 124, 125, 126])) ?_)
    refine wss_cons (ws_setE (i := 2) sc__law_map_value_drawn.nd (EE.is (ee_bin (ee_var (i := 2) rfl) (ee_strS (l := [65, 66, 67, 68, 69, 70, 71, 72, 73, 74, 75, 76, 77, 78, 79, 80, 81, 82, 83, 84, 85, 86, 87, 88, 89, 90, 97, 98, 99, 100, 101, 102, 103, 104, 105, 106, 107, 108, 109, 110, 111, 112, 113, 114, 115, 116, 117, 118, 119, 120, 121, 122])) (by walk_at "bd")) (show _ = S (sigV ++ sigL) from rfl)) ?_)
    have hsl : (sigV ++ sigL).length = 94 := by decide
    refine wss_one (ws_ret (we_meth PySem.F.plainAttrs_str PySem.F.slot_str_join PySem.F.type_str_join (ee_strS (l := [])) (fun m => ty_str) (wa_cons
      (we_lcI (fun i acc m' => ∃ (t : List Nat) (a' c' : Int), Sg 32 t ∧ t.length = i ∧ acc = t.map sgn ∧ 0 ≤ a' ∧ (0 ≤ c' ∧ c' ≤ c1 + 1 + i) ∧ m' = Pt p a' b c' :: m) [("lap", 3)] rfl sc__law_map_value_drawn.nd
        (wi_range1 (we_bin (EE.to ee_int (wg_call (ok__law_take T) (rm.mono (by decide)) T.m__law_take T.F__law_take.kp T.b__law_take (EA.to (ea_cons (ee_var (i := 0) rfl) (ea_cons ee_int ea_nil)) ⟨[], _, rfl, .mk h2 hb ⟨h3.1, by omega⟩ (by decide) hpf fun d a2 c2 h4 h5 h6 => ⟨_, bd_add, _, rfl, by omega, by rw [List.length_map, List.length_range]; omega, ⟨[], a2, c2, Sg.nil, rfl, rfl, h5, ⟨h6.1, by omega⟩, rfl⟩, ?_, ?_⟩⟩)))) T.m_range)
        (fun _ _ _ _ _ _ _ _ _ p => wg_name p sc__law_map_value_drawn.nd) (blkOk_by (by rfl))))))
    · rintro i y acc m' hy hi ⟨t, a3, c3, ht, hlen, rfl, ha3, hc3, rfl⟩ s H Ce cl fp
      have hlt := get_lt hy
      rw [List.length_map, List.length_range] at hlt
      refine (wg_call (ok__law_of T) (rm.mono (by decide)) T.m__law_of T.F__law_of.kp T.b__law_of (EA.to (ea_cons (ee_var (i := 0) rfl) (ea_cons (ee_var (i := 2) rfl) ea_nil)) ⟨[], _, rfl, .tx ha3 hb ⟨hc3.1, by omega⟩ (by rw [hsl]; decide) hpf fun x a4 c4 h7 h8 h9 => ?_⟩))
      exact ⟨_, rfl, t ++ [x], a4, c4, ht.app (Sg.one sig_v h7), by rw [List.length_append, hlen]; rfl, by rw [List.map_append]; rfl, h8, ⟨h9.1, by omega⟩, rfl⟩
    · rintro acc m' hi ⟨t, a3, c3, ht, hlen, rfl, ha3, hc3, rfl⟩
      rw [List.length_map, List.length_range] at hlen hc3
      exact wa_nil ⟨_, md_joinS (by omega), h t a3 c3 (ht.wrd (by omega)) (ht.ok (by omega) (by omega)) ha3 ⟨hc3.1, by omega⟩⟩
  · rw [if_neg (by rw [decide_eq_true_eq]; exact hw)]
    refine wss_nil (wss_one (ws_ret (we_if (wt_cmp (wg_call (ok__law_take T) (rm.mono (by decide)) T.m__law_take T.F__law_take.kp T.b__law_take (EA.to (ea_cons (ee_var (i := 0) rfl) (ea_cons ee_int ea_nil)) ⟨[], _, rfl, .mk h2 hb ⟨h3.1, by omega⟩ (by decide) hpf fun w2 a2 c2 h4 h5 h6 => EE.to ee_int ⟨_, cd_eq, ?_⟩⟩))))))
    by_cases hw2 : w2 = 0
    · rw [if_pos (decide_eq_true hw2)]
      refine (wg_call (ok__law_of T) (rm.mono (by decide)) T.m__law_of T.F__law_of.kp T.b__law_of (EA.to (ea_cons (ee_var (i := 0) rfl) (ea_cons (ee_var (i := 1) rfl) ea_nil)) ⟨[], _, rfl, .mk h5 hb ⟨h6.1, by omega⟩ (by simp) hpf fun d a3 c3 h7 h8 h9 => ?_⟩))
      obtain ⟨w, hw3, rfl⟩ := mem_txts (ls := valC) h7
      exact h w a3 c3 (val_const hw3).1 (val_const hw3).2 h8 ⟨h9.1, by omega⟩
    · rw [if_neg (by rw [decide_eq_true_eq]; exact hw2)]
      refine we_callTy (wa_cons (wg_call (ok__law_take T) (rm.mono (by decide)) T.m__law_take T.F__law_take.kp T.b__law_take (EA.to (ea_cons (ee_var (i := 0) rfl) (ea_cons ee_int ea_nil)) ⟨[], _, rfl, .mk h5 hb ⟨h6.1, by omega⟩ (by decide) hpf fun d a3 c3 h7 h8 h9 => ?_⟩))) T.m_str bo_str
      obtain ⟨n1, n2, n3⟩ := Sg.num (i := d) h7.1 (by omega)
      exact wa_nil ⟨_, ca_strI (by omega), h _ a3 c3 (n1.wrd (by omega)) (kv_ok (n1.ok n2 (by omega))) h8 ⟨h9.1, by omega⟩⟩
end
end K76
end W9
namespace W9
namespace K76
open PySem PySem.Spec PyProof.Rows L2
local macro_rules | `(tactic| walk_at "sz") => `(tactic| first | assumption | omega | decide | (simp only [List.length_append, List.length_map, List.length_cons, List.length_nil]; omega) | (simp only [List.length_zip, List.length_drop, List.length_map, List.length_append, List.length_cons, List.length_nil]; omega))
local macro_rules | `(tactic| walk_at "bd") => `(tactic| first | exact bd_add | exact bd_sub | exact bd_mul (by omega) | exact bd_mod (by omega) | exact bd_pow (by omega) | exact bd_powX (by decide +kernel) | exact bd_mod (by decide +kernel) | exact bd_mulB | exact bd_div (by omega) | exact bd_mulS ⟨by omega, by omega, by omega⟩ | exact bd_addS (by walk_at "sz") | exact bd_catL (by walk_at "sz"))
local macro_rules | `(tactic| walk_at "cd") => `(tactic| first | exact cd_lt | exact cd_le | exact cd_gt | exact cd_ge | exact cd_eq | exact cd_ne | exact cd_noneInF ‹Rm 0 _› | exact cd_neL ‹Rm 0 _› (by walk_at "pl") (by walk_at "pl") | exact cd_notinTs | exact cd_inTs ‹Rm 0 _› (by walk_at "pc") (by walk_at "pl") | exact cd_inS | exact cd_isN | exact cd_notN | exact cd_eqS | exact cd_neS | exact cd_ltS | exact cd_leS | exact cd_gtS)
local macro_rules | `(tactic| walk_at "md") => `(tactic| first | exact md_split (by walk_at "sz") | exact md_isdigit | exact md_joinS (by walk_at "sz"))
local macro_rules | `(tactic| walk_at "sd") => `(tactic| first | exact sd_ints (l := [2147483647, 2147483629, 2147483587, 2147483579, 2147483563]) (by omega) (by simp only [List.length_cons, List.length_nil]; omega) | exact sd_lst (at_nn (by decide) (txts_get (lns_head _))) | exact sd_lst rfl | exact sd_tup rfl)
local macro_rules | `(tactic| walk_at "sl") => `(tactic| first | exact sl_L | exact sl_S (by walk_at "sz"))
local macro_rules | `(tactic| walk_at "rg") => `(tactic| omega)
local macro_rules | `(tactic| walk_at "ca") => `(tactic| first | exact ca_isiStr | exact ca_isiII | exact ca_isiIB | exact ca_isiTT | exact ca_isiIT | exact ca_isiST | exact ca_allm rfl | exact ca_anym rfl | exact ca_lenS (by walk_at "sz") | exact ca_lenL | exact ca_lenT | exact ca_tupL | exact ca_int | exact ca_intB | exact ca_strI (by walk_at "sz") | exact ca_abs | exact ca_max2 rfl | exact ca_min2 rfl)
local macro_rules | `(tactic| walk_at "fl") => `(tactic| first | rfl | simp)
local macro_rules | `(tactic| walk_at "rep") => `(tactic| assumption)
local macro_rules | `(tactic| walk_at "zz") => `(tactic| exact Nat.le_trans (Nat.min_le_right _ _) (by simp only [List.length_map]; omega))
local macro_rules | `(tactic| walk_at "call is_sheet") => `(tactic| exact .mk (by assumption))
local macro_rules | `(tactic| walk_at "ss") => `(tactic| walk_at "sz")
local macro_rules | `(tactic| walk_at "pl") => `(tactic| assumption)
local macro_rules | `(tactic| walk_at "pc") => `(tactic| assumption)
local macro_rules | `(tactic| walk_at "call is_whole") => `(tactic| exact .mk)
local macro_rules | `(tactic| walk_at "call is_integer") => `(tactic| exact .mk)
local macro_rules | `(tactic| walk_at "call is_tuple") => `(tactic| first | exact .tup | exact .int)
local macro_rules | `(tactic| walk_at "call is_string") => `(tactic| first | exact .new | exact .kd)
local macro_rules | `(tactic| walk_at "call is_page_text") => `(tactic| exact .mk (by assumption) (by assumption))
local macro_rules | `(tactic| walk_at "call is_child") => `(tactic| first | exact .n | exact .nw)
local macro_rules | `(tactic| walk_at "call sheet_of") => `(tactic| exact .mk (by assumption) (by assumption))
local macro_rules | `(tactic| walk_at "call sheet_in") => `(tactic| exact .mk (by assumption) (by assumption))
local macro_rules | `(tactic| walk_at "call _law_map_sheet") => `(tactic| exact .mk (by assumption) (by assumption))
local macro_rules | `(tactic| walk_at "call _law_read") => `(tactic| exact .mk (by assumption) (by assumption))
local macro_rules | `(tactic| walk_at "call _law_is_specified") => `(tactic| exact .mk (by assumption) (by assumption))
local macro_rules | `(tactic| walk_at "call sheet_text") => `(tactic| exact .mk (by assumption) (by assumption) (by assumption) (by assumption))
local macro_rules | `(tactic| walk_at "call _law_text") => `(tactic| exact .mk (by assumption) (by assumption) (by assumption) (by assumption))
local macro_rules | `(tactic| walk_at "call are_signs") => `(tactic| exact .mk (by assumption))
local macro_rules | `(tactic| walk_at "call is_key") => `(tactic| first | exact .mk (by assumption) | exact .mk (by solve_by_elim) | exact .mk (by walk_at "wd"))
local macro_rules | `(tactic| walk_at "call is_value") => `(tactic| first | exact .mk (by assumption) | exact .mk (by solve_by_elim) | exact .mk (by walk_at "wd"))
local macro_rules | `(tactic| walk_at "call long_whole_in") => `(tactic| exact .mk (by assumption))
local macro_rules | `(tactic| walk_at "call whole_in") => `(tactic| first | exact .mk (by assumption) | exact .mk (by solve_by_elim) | exact .mk (by walk_at "wd"))
local macro_rules | `(tactic| walk_at "call _law_map_is_key") => `(tactic| first | exact .mk (by assumption) | exact .mk (by solve_by_elim) | exact .mk (by walk_at "wd"))
local macro_rules | `(tactic| walk_at "call _law_map_is_value") => `(tactic| first | exact .mk (by assumption) | exact .mk (by solve_by_elim) | exact .mk (by walk_at "wd"))
local macro_rules | `(tactic| walk_at "call _law_map_number") => `(tactic| first | exact .mk (by assumption) | exact .mk (by solve_by_elim) | exact .mk (by walk_at "wd"))
local macro_rules | `(tactic| walk_at "call _law_cells") => `(tactic| exact .mk)

inductive F__law_sheet : FT
  | mk {p : Addr} {a b c : Int} {m : MS} {P : SD → MS → Prop} (ha : 0 ≤ a) (hb : PB b) (hc : 0 ≤ c ∧ c ≤ 80000) (hpf : p ∉ ad m)
      (h : ∀ (s : Sh) (a' c' : Int), ShD s → 0 ≤ a' → (0 ≤ c' ∧ c' ≤ c + 200) → P (.py (shP s)) (Pt p a' b c' :: m)) : F__law_sheet [.raw (.ref p)] (Pt p a b c :: m) P
section
variable {P : Program} {w : World} {K : PySem.W.Frag} {mg : Str → Option Value} {base : Heap}
theorem ok__law_sheet (T : Tx K mg) : FnG P w K mg base CX0 4 T.a__law_sheet T.d__law_sheet ["pot"] (SpD K F__law_sheet) := by
  refine fnD_ok T.F__law_sheet sc__law_sheet (fun xs m Pp h => by cases h <;> rfl) (fun cdv A outer s H E rm xs m Pp hF => ?_)
  cases hF with | @mk p a b c m Pp ha hb hc hpf h =>
  refine wss_cons (ws_set (i := 1) sc__law_sheet.nd (wg_call (ok__law_of T) (rm.mono (by decide)) T.m__law_of T.F__law_of.kp T.b__law_of (EA.to (ea_cons (ee_var (i := 0) rfl) (ea_cons (ee_lst (eap_cons (ee_strS (l := [108, 101, 97, 102])) (eap_cons (ee_strS (l := [102, 111, 114, 107])) eap_nil))) ea_nil)) ⟨[], _, rfl, .mk ha hb ⟨hc.1, by omega⟩ (by decide) hpf fun d a1 c1 h1 h2 h3 => ?_⟩)))
  obtain ⟨leaf, rfl⟩ : ∃ leaf : Bool, d = .str ⟨(kdS leaf).toArray⟩ := by
    simp only [List.mem_cons, List.not_mem_nil, or_false] at h1
    rcases h1 with e | e
    · exact ⟨true, e⟩
    · exact ⟨false, e⟩
  refine wss_cons (ws_set (i := 2) sc__law_sheet.nd (we_cutW (we_sortset (we_lcI (fun i acc m' => ∃ (ws : List (List Nat)) (a' c' : Int), (∀ w ∈ ws, Wrd w ∧ kOk w = true) ∧ ws.length = i ∧ acc = txts ws ∧ 0 ≤ a' ∧ (0 ≤ c' ∧ c' ≤ c1 + 20 * i) ∧ m' = Pt p a' b c' :: m) [("lap", 7)] rfl sc__law_sheet.nd
      (EI.to (ei_range1 ee_int (by walk_at "rg") T.m_range) ⟨by rw [List.length_map, List.length_range]; decide, ⟨[], a1, c1, (fun _ z => nomatch z), rfl, rfl, h2, ⟨h3.1, by omega⟩, rfl⟩, ?_, ?_⟩)
      (fun _ _ _ _ _ _ _ _ _ p => wg_name p sc__law_sheet.nd) (blkOk_by (by rfl))) T.m_sorted T.m_set)))
  · rintro i y acc m' hy hi ⟨ws, a2, c2, hw, hlen, rfl, ha2, hc2, rfl⟩ s H Ce cl fp
    have hlt := get_lt hy
    rw [List.length_map, List.length_range] at hlt
    have hlt2 : i < 4 := hlt
    refine (wg_call (ok__law_map_key_drawn T) (rm.mono (by decide)) T.m__law_map_key_drawn T.F__law_map_key_drawn.kp T.b__law_map_key_drawn (EA.to (ea_cons (ee_var (i := 0) rfl) ea_nil) ⟨[], _, rfl, .mk ha2 hb ⟨hc2.1, by omega⟩ hpf fun w a3 c3 g1 g2 g3 g4 => ?_⟩))
    refine ⟨_, rfl, ws ++ [w], a3, c3, fun v hv => ?_, by rw [List.length_append, hlen]; rfl, by unfold txts; rw [List.map_append]; rfl, g3, ⟨g4.1, by omega⟩, rfl⟩
    rcases List.mem_append.mp hv with e | e
    · exact hw v e
    · rw [List.mem_singleton.mp e]; exact ⟨g1, g2⟩
  · rintro acc m' hi ⟨ws, a2, c2, hw, hlen, rfl, ha2, hc2, rfl⟩
    rw [List.length_map, List.length_range] at hlen hc2
    have hlen4 : ws.length = 4 := hlen
    refine ⟨ws, rfl, by omega, _, rfl, we_bin (EE.to ee_int (wg_call (ok__law_take T) (rm.mono (by decide)) T.m__law_take T.F__law_take.kp T.b__law_take (EA.to (ea_cons (ee_var (i := 0) rfl) (ea_cons ee_int ea_nil)) ⟨[], _, rfl, .mk ha2 hb ⟨hc2.1, by omega⟩ (by decide) hpf fun d a3 c3 g1 g2 g3 => ⟨_, bd_add, _, rfl, ?_⟩⟩)))⟩
    obtain ⟨n, hn⟩ : ∃ n : Nat, 1 + d = (n : Int) := ⟨(1 + d).toNat, by omega⟩
    have hn1 : 1 ≤ n ∧ n ≤ 4 := by omega
    rw [hn, cut_0n, ← List.map_take]
    have hsp := sds_pos (ws := ws) (by omega)
    have hkl : 1 ≤ ((sds ws).take n).length := by rw [List.length_take]; omega
    have hk4 : ((sds ws).take n).length ≤ 4 := by rw [List.length_take]; omega
    have hks : ∀ lf, lowOf lf ≤ ((sds ws).take n).length → KsD lf ((sds ws).take n) := fun lf hl => ks_take hw hn1.2 hl
    generalize (sds ws).take n = ks0 at hkl hk4 hks
    refine wss_ifset (i := 2) (k := (!leaf) && decide (((txts ks0).length : Int) < 2)) (d0 := Ls (txts ks0)) (d1 := Ls (txts [[97], [98]])) sc__law_sheet.nd (ET.is (et_w (ew_and (et_cmp (ee_var (i := 1) rfl) (ee_strS (l := [102, 111, 114, 107])) (by walk_at "cd")) (fun _ => ew_and1 (et_cmp (ee_callB (ea_cons (ee_var (i := 2) rfl) ea_nil) (fun m => by walk_at "ca") T.m_len bo_len) ee_int (by walk_at "cd"))))) (by rw [kd_fork])) (fun _ => (ee_lst (eap_cons (ee_strS (l := [97])) (eap_cons (ee_strS (l := [98])) eap_nil)))) rfl (fun dk hdk => ?_)
    obtain ⟨ks, hkd, rfl⟩ : ∃ ks, KsD leaf ks ∧ dk = Ls (txts ks) := by
      cases leaf with
      | true => exact ⟨ks0, hks true hkl, hdk⟩
      | false =>
        by_cases q : ((txts ks0).length : Int) < 2
        · rw [decide_eq_true q] at hdk
          exact ⟨_, ks_ab, hdk⟩
        · rw [decide_eq_false q] at hdk
          refine ⟨ks0, hks false ?_, hdk⟩
          rw [List.length_map] at q
          show 2 ≤ ks0.length
          omega
    clear hdk hks hkl hk4
    have hkl4 := hkd.l.2
    refine wss_cons (ws_set (i := 3) sc__law_sheet.nd (we_lstN (wa_nil ⟨[], rfl, by simp, fun q hq => ?_⟩)))
    have hqp : q ≠ p := fun z => hq (by rw [z]; exact List.mem_cons_self)
    have hqm : q ∉ ad m := fun z => hq (List.mem_cons_of_mem _ z)
    have hqa : ∀ a c, q ∉ ad (Pt p a b c :: m) := fun a c z => (List.mem_cons.mp z).elim hqp hqm
    refine wss_cons (ws_for (js := [4]) ((EI.is (ei_lst (ee_var (i := 2) rfl)) (txts_sd ks)).to ⟨fun i ds' m' => ∃ (y4 y5 y6 y7 : Option SD) (ts : List Tl) (a' c' : Int), ts.length = i ∧ (∀ t ∈ ts, TlD leaf t) ∧ 0 ≤ a' ∧ (0 ≤ c' ∧ c' ≤ c3 + 25 * i) ∧ ds' = [some (.raw (.ref p)), some (S (kdS leaf)), some (Ls (txts ks)), some (.raw (.ref q)), y4, y5, y6, y7] ∧ m' = (q, .dl ((List.zip (ks.take i) ts).map entP)) :: Pt p a' b c' :: m, ⟨_, _, _, _, [], a3, c3, rfl, (fun _ z => nomatch z), g2, ⟨g3.1, by omega⟩, rfl, rfl⟩, ?_, ?_⟩))
    · rintro i x ds' m' hx ⟨y4, y5, y6, y7, ts, a4, c4, hlt, htd, ha4, hc4, rfl, rfl⟩
      obtain ⟨kw, hk, rfl⟩ := map_get hx
      have hik := get_lt hk
      refine wg_name ?_ sc__law_sheet.nd
      refine wss_cons (ws_set (i := 5) sc__law_sheet.nd (wg_call (ok__law_take T) (rm.mono (by decide)) T.m__law_take T.F__law_take.kp T.b__law_take (EA.to (ea_cons (ee_var (i := 0) rfl) (ea_cons ee_int ea_nil)) ⟨[(q, _)], _, rfl, .mk ha4 hb ⟨hc4.1, by omega⟩ (by decide) hpf fun way a5 c5 e1 e2 e3 => ?_⟩)))
      have step : ∀ (t : Tl) (a6 c6 : Int), TlD leaf t → 0 ≤ a6 → (0 ≤ c6 ∧ c6 ≤ c4 + 25) → ∀ ds2 : DE, (∃ (y4 y5 y6 y7 : Option SD), ds2 = [some (.raw (.ref p)), some (S (kdS leaf)), some (Ls (txts ks)), some (.raw (.ref q)), y4, y5, y6, y7]) →
          ∃ (y4 y5 y6 y7 : Option SD) (ts' : List Tl) (a' c' : Int), ts'.length = i + 1 ∧ (∀ t ∈ ts', TlD leaf t) ∧ 0 ≤ a' ∧ (0 ≤ c' ∧ c' ≤ c3 + 25 * ((i + 1 : Nat) : Int)) ∧ ds2 = [some (.raw (.ref p)), some (S (kdS leaf)), some (Ls (txts ks)), some (.raw (.ref q)), y4, y5, y6, y7] ∧ mset ((q, OV.dl ((List.zip (ks.take i) ts).map entP)) :: Pt p a6 b c6 :: m) q (.dl ((List.zip (ks.take i) ts).map entP ++ [.tuple [.str ⟨kw.toArray⟩, tlP t]])) = (q, .dl ((List.zip (ks.take (i + 1)) ts').map entP)) :: Pt p a' b c' :: m := fun t a6 c6 ht h6 h7 ds2 ⟨z4, z5, z6, z7, e⟩ => by
        refine ⟨z4, z5, z6, z7, ts ++ [t], a6, c6, by rw [List.length_append, hlt]; rfl, fun u hu => ?_, h6, ⟨h7.1, by omega⟩, e, ?_⟩
        · rcases List.mem_append.mp hu with z | z
          · exact htd u z
          · rw [List.mem_singleton.mp z]; exact ht
        · rw [mset_head (hqa _ _), take_snoc hk, List.zip_append (by rw [List.length_take, hlt]; omega), List.map_append]
          rfl
      have hz : ((List.zip (ks.take i) ts).map entP).length < 1000000 := by
        rw [List.length_map, List.length_zip, List.length_take]
        omega
      have child : ∀ (t : Tl) (a6 c6 : Int), tlOk t = true → (∀ j, t = .nw j → j < 5) → (leaf = false → TlFit leaf t) → 0 ≤ a6 → (0 ≤ c6 ∧ c6 ≤ c4 + 4) → True := fun _ _ _ _ _ _ _ _ => trivial
      refine wss_cons (ws_set (i := 6) sc__law_sheet.nd (we_if (ET.to (et_cmp (ee_var (i := 5) rfl) ee_int (by walk_at "cd")) ?_)))
      by_cases hw0 : way = 0
      · rw [if_pos (decide_eq_true hw0)]
        refine we_tup (wa_cons (EE.to (ee_strS (l := [110, 101, 119])) (wa_cons (wg_call (ok__law_take T) (rm.mono (by decide)) T.m__law_take T.F__law_take.kp T.b__law_take (EA.to (ea_cons (ee_var (i := 0) rfl) (ea_cons ee_int ea_nil)) ⟨[(q, _)], _, rfl, .mk e2 hb ⟨e3.1, by omega⟩ (by decide) hpf fun j a6 c6 f1 f2 f3 => wa_nil ⟨[.str ⟨nNew.toArray⟩, .int j], rfl, by simp, ?_⟩⟩)))))
        refine wss_one (ws_app (ee_var (i := 3) rfl) ⟨_, List.mem_cons_self⟩ (we_tup (wa_cons (EE.to (ee_var (i := 4) rfl) (wa_cons (we_if (ET.to (et_cmp (ee_var (i := 1) rfl) (ee_strS (l := [108, 101, 97, 102])) (by walk_at "cd")) ?_)))))))
        cases leaf with
        | true =>
          refine (wg_call (ok__law_map_value_drawn T) (rm.mono (by decide)) T.m__law_map_value_drawn T.F__law_map_value_drawn.kp T.b__law_map_value_drawn (EA.to (ea_cons (ee_var (i := 0) rfl) ea_nil) ⟨[(q, _)], _, rfl, .mk f2 hb ⟨f3.1, by omega⟩ hpf fun vw a7 c7 k1 k2 k3 k4 => wa_nil ⟨[.str ⟨kw.toArray⟩, .str ⟨vw.toArray⟩], rfl, by simp, _, _, rfl, List.mem_cons_self, hz, step (.v vw) a7 c7 ⟨⟨rfl, k1⟩, k2, fun j z => nomatch z⟩ k3 ⟨k4.1, by omega⟩ _ ⟨_, _, _, _, rfl⟩⟩⟩))
        | false =>
          refine EE.to (ee_var (i := 6) rfl) (wa_nil ⟨[.str ⟨kw.toArray⟩, tlP (.nw j)], rfl, by simp, _, _, rfl, List.mem_cons_self, hz, step (.nw j) a6 c6 ⟨⟨rfl, by omega⟩, ?_, fun j' z => ?_⟩ f2 ⟨f3.1, by omega⟩ _ ⟨_, _, _, _, rfl⟩⟩)
          · show inR j = true
            unfold inR
            rw [Bool.and_eq_true, decide_eq_true_eq, decide_eq_true_eq]
            omega
          · cases z
            exact f1.2
      · rw [if_neg (by rw [decide_eq_true_eq]; exact hw0)]
        refine (wg_call (ok__law_of T) (rm.mono (by decide)) T.m__law_of T.F__law_of.kp T.b__law_of (EA.to (ea_cons (ee_var (i := 0) rfl) (ea_cons (ee_lst (eap_cons ee_int (eap_cons ee_int (eap_cons ee_int (eap_cons ee_int (eap_cons (ee_bin ee_int ee_int (by walk_at "bd")) eap_nil)))))) ea_nil)) ⟨[(q, _)], _, rfl, .mk e2 hb ⟨e3.1, by omega⟩ (by simp) hpf fun dj a6 c6 f1 f2 f3 => ?_⟩))
        obtain ⟨j, rfl, hj⟩ : ∃ j : Int, dj = .int j ∧ inR j = true := by
          simp only [List.mem_cons, List.not_mem_nil, or_false] at f1
          rcases f1 with e | e | e | e | e
          · exact ⟨0, e, by decide⟩
          · exact ⟨7, e, by decide⟩
          · exact ⟨12, e, by decide⟩
          · exact ⟨511, e, by decide⟩
          · exact ⟨_, e, by decide +kernel⟩
        have hjl := inR_lt hj
        refine wss_one (ws_app (ee_var (i := 3) rfl) ⟨_, List.mem_cons_self⟩ (we_tup (wa_cons (EE.to (ee_var (i := 4) rfl) (wa_cons (we_if (ET.to (et_cmp (ee_var (i := 1) rfl) (ee_strS (l := [108, 101, 97, 102])) (by walk_at "cd")) ?_)))))))
        cases leaf with
        | true =>
          refine (wg_call (ok__law_map_value_drawn T) (rm.mono (by decide)) T.m__law_map_value_drawn T.F__law_map_value_drawn.kp T.b__law_map_value_drawn (EA.to (ea_cons (ee_var (i := 0) rfl) ea_nil) ⟨[(q, _)], _, rfl, .mk f2 hb ⟨f3.1, by omega⟩ hpf fun vw a7 c7 k1 k2 k3 k4 => wa_nil ⟨[.str ⟨kw.toArray⟩, .str ⟨vw.toArray⟩], rfl, by simp, _, _, rfl, List.mem_cons_self, hz, step (.v vw) a7 c7 ⟨⟨rfl, k1⟩, k2, fun j z => nomatch z⟩ k3 ⟨k4.1, by omega⟩ _ ⟨_, _, _, _, rfl⟩⟩⟩))
        | false =>
          exact EE.to (ee_var (i := 6) rfl) (wa_nil ⟨[.str ⟨kw.toArray⟩, tlP (.n j)], rfl, by simp, _, _, rfl, List.mem_cons_self, hz, step (.n j) a6 c6 ⟨⟨rfl, by omega⟩, hj, fun j' z => nomatch z⟩ f2 ⟨f3.1, by omega⟩ _ ⟨_, _, _, _, rfl⟩⟩)
    · rintro ds' m' ⟨y4, y5, y6, y7, ts, a4, c4, hlt, htd, ha4, hc4, rfl, rfl⟩
      rw [List.length_map] at hlt hc4
      rw [List.length_map, List.take_length]
      refine wss_seal (i := 3) rfl (wss_one (ws_retE (EE.is (ee_tup (eap_cons (ee_var (i := 1) rfl) (eap_cons (ee_callTy (ea_cons (ee_var (i := 3) rfl) ea_nil) (fun m => by walk_at "ca") T.m_tuple bo_tuple) eap_nil))) (show _ = SD.py (shP ⟨leaf, List.zip ks ts⟩) from rfl)) (h _ a4 c4 (ks_sheet hkd hlt htd) ha4 ⟨hc4.1, by omega⟩)))
end
end K76
end W9
namespace W9
namespace K76
open PySem PySem.Spec PyProof.Rows L2
local macro_rules | `(tactic| walk_at "sz") => `(tactic| first | assumption | omega | decide | (simp only [List.length_append, List.length_map, List.length_cons, List.length_nil]; omega) | (simp only [List.length_zip, List.length_drop, List.length_map, List.length_append, List.length_cons, List.length_nil]; omega))
local macro_rules | `(tactic| walk_at "bd") => `(tactic| first | exact bd_add | exact bd_sub | exact bd_mul (by omega) | exact bd_mod (by omega) | exact bd_pow (by omega) | exact bd_powX (by decide +kernel) | exact bd_mod (by decide +kernel) | exact bd_mulB | exact bd_div (by omega) | exact bd_mulS ⟨by omega, by omega, by omega⟩ | exact bd_addS (by walk_at "sz") | exact bd_catL (by walk_at "sz"))
local macro_rules | `(tactic| walk_at "cd") => `(tactic| first | exact cd_lt | exact cd_le | exact cd_gt | exact cd_ge | exact cd_eq | exact cd_ne | exact cd_noneInF ‹Rm 0 _› | exact cd_neL ‹Rm 0 _› (by walk_at "pl") (by walk_at "pl") | exact cd_notinTs | exact cd_inTs ‹Rm 0 _› (by walk_at "pc") (by walk_at "pl") | exact cd_inS | exact cd_isN | exact cd_notN | exact cd_eqS | exact cd_neS | exact cd_ltS | exact cd_leS | exact cd_gtS)
local macro_rules | `(tactic| walk_at "md") => `(tactic| first | exact md_split (by walk_at "sz") | exact md_isdigit | exact md_joinS (by walk_at "sz"))
local macro_rules | `(tactic| walk_at "sd") => `(tactic| first | exact sd_ints (l := [2147483647, 2147483629, 2147483587, 2147483579, 2147483563]) (by omega) (by simp only [List.length_cons, List.length_nil]; omega) | exact sd_lst (at_nn (by decide) (txts_get (lns_head _))) | exact sd_lst rfl | exact sd_tup rfl)
local macro_rules | `(tactic| walk_at "sl") => `(tactic| first | exact sl_L | exact sl_S (by walk_at "sz"))
local macro_rules | `(tactic| walk_at "rg") => `(tactic| omega)
local macro_rules | `(tactic| walk_at "ca") => `(tactic| first | exact ca_isiStr | exact ca_isiII | exact ca_isiIB | exact ca_isiTT | exact ca_isiIT | exact ca_isiST | exact ca_allm rfl | exact ca_anym rfl | exact ca_lenS (by walk_at "sz") | exact ca_lenL | exact ca_lenT | exact ca_tupL | exact ca_int | exact ca_intB | exact ca_strI (by walk_at "sz") | exact ca_abs | exact ca_max2 rfl | exact ca_min2 rfl)
local macro_rules | `(tactic| walk_at "fl") => `(tactic| first | rfl | simp)
local macro_rules | `(tactic| walk_at "rep") => `(tactic| assumption)
local macro_rules | `(tactic| walk_at "zz") => `(tactic| exact Nat.le_trans (Nat.min_le_right _ _) (by simp only [List.length_map]; omega))
local macro_rules | `(tactic| walk_at "call is_sheet") => `(tactic| exact .mk (by assumption))
local macro_rules | `(tactic| walk_at "ss") => `(tactic| walk_at "sz")
local macro_rules | `(tactic| walk_at "pl") => `(tactic| assumption)
local macro_rules | `(tactic| walk_at "pc") => `(tactic| assumption)
local macro_rules | `(tactic| walk_at "call is_whole") => `(tactic| exact .mk)
local macro_rules | `(tactic| walk_at "call is_integer") => `(tactic| exact .mk)
local macro_rules | `(tactic| walk_at "call is_tuple") => `(tactic| first | exact .tup | exact .int)
local macro_rules | `(tactic| walk_at "call is_string") => `(tactic| first | exact .new | exact .kd)
local macro_rules | `(tactic| walk_at "call is_page_text") => `(tactic| exact .mk (by assumption) (by assumption))
local macro_rules | `(tactic| walk_at "call is_child") => `(tactic| first | exact .n | exact .nw)
local macro_rules | `(tactic| walk_at "call sheet_of") => `(tactic| exact .mk (by assumption) (by assumption))
local macro_rules | `(tactic| walk_at "call sheet_in") => `(tactic| exact .mk (by assumption) (by assumption))
local macro_rules | `(tactic| walk_at "call _law_map_sheet") => `(tactic| exact .mk (by assumption) (by assumption))
local macro_rules | `(tactic| walk_at "call _law_read") => `(tactic| exact .mk (by assumption) (by assumption))
local macro_rules | `(tactic| walk_at "call _law_is_specified") => `(tactic| exact .mk (by assumption) (by assumption))
local macro_rules | `(tactic| walk_at "call sheet_text") => `(tactic| exact .mk (by assumption) (by assumption) (by assumption) (by assumption))
local macro_rules | `(tactic| walk_at "call _law_text") => `(tactic| exact .mk (by assumption) (by assumption) (by assumption) (by assumption))
local macro_rules | `(tactic| walk_at "call are_signs") => `(tactic| exact .mk (by assumption))
local macro_rules | `(tactic| walk_at "call is_key") => `(tactic| first | exact .mk (by assumption) | exact .mk (by solve_by_elim) | exact .mk (by walk_at "wd"))
local macro_rules | `(tactic| walk_at "call is_value") => `(tactic| first | exact .mk (by assumption) | exact .mk (by solve_by_elim) | exact .mk (by walk_at "wd"))
local macro_rules | `(tactic| walk_at "call long_whole_in") => `(tactic| exact .mk (by assumption))
local macro_rules | `(tactic| walk_at "call whole_in") => `(tactic| first | exact .mk (by assumption) | exact .mk (by solve_by_elim) | exact .mk (by walk_at "wd"))
local macro_rules | `(tactic| walk_at "call _law_map_is_key") => `(tactic| first | exact .mk (by assumption) | exact .mk (by solve_by_elim) | exact .mk (by walk_at "wd"))
local macro_rules | `(tactic| walk_at "call _law_map_is_value") => `(tactic| first | exact .mk (by assumption) | exact .mk (by solve_by_elim) | exact .mk (by walk_at "wd"))
local macro_rules | `(tactic| walk_at "call _law_map_number") => `(tactic| first | exact .mk (by assumption) | exact .mk (by solve_by_elim) | exact .mk (by walk_at "wd"))
local macro_rules | `(tactic| walk_at "call _law_cells") => `(tactic| exact .mk)

inductive F__law_near : FT
  | mk {p : Addr} {a b c : Int} {t : List Nat} {m : MS} {P : SD → MS → Prop} (ha : 0 ≤ a) (hb : PB b) (hc : 0 ≤ c ∧ c ≤ 80000) (hpf : p ∉ ad m) (ht : OkT t) (hl : t.length ≤ 113)
      (h : ∀ (ts : List (List Nat)) (a' c' : Int), (∀ u ∈ ts, OkT u ∧ u.length ≤ 113) → ts.length ≤ 8 → 0 ≤ a' → (0 ≤ c' ∧ c' ≤ c + 30) → P (Ls (txts ts)) (Pt p a' b c' :: m)) : F__law_near [.raw (.ref p), S t] (Pt p a b c :: m) P
section
variable {P : Program} {w : World} {K : PySem.W.Frag} {mg : Str → Option Value} {base : Heap}
theorem ok__law_near (T : Tx K mg) : FnG P w K mg base CX0 3 T.a__law_near T.d__law_near ["pot", "text"] (SpD K F__law_near) := by
  refine fnD_ok T.F__law_near sc__law_near (fun xs m Pp h => by cases h <;> rfl) (fun cdv A outer s H E rm xs m Pp hF => ?_)
  cases hF with | @mk p a b c t m Pp ha hb hc hpf ht hl h =>
  have hww := lns_wrd ht hl
  have hf := lns_few (t := t) hl
  have hf1 : 0 < (lns t).length := List.length_pos_iff.mpr (lnsA_ne t [])
  have hWL : WL 114 (txts (lns t)) := ⟨lns t, rfl, hww, hf⟩
  refine wss_cons (ws_par (i := 2) (j := 3) sc__law_near.nd (wa_cons (EE.to (ee_meth PySem.F.plainAttrs_str PySem.F.slot_str_split PySem.F.type_str_split (ee_var (i := 1) rfl) (ea_cons (ee_strS (l := [10])) ea_nil) (fun m => by walk_at "md")) (wa_cons (we_lstN (wa_nil ⟨[], rfl, by simp, fun q hq => wa_nil ⟨_, _, rfl, ?_⟩⟩))))))
  have hqp : q ≠ p := fun z => hq (by rw [z]; exact List.mem_cons_self)
  have hqm : q ∉ ad m := fun z => hq (List.mem_cons_of_mem _ z)
  have hqa : ∀ a c, q ∉ ad (Pt p a b c :: m) := fun a c z => (List.mem_cons.mp z).elim hqp hqm
  have hwl : (txts (lns t)).length = (lns t).length := List.length_map ..
  generalize hW : txts (lns t) = W at hWL hwl
  refine wss_cons (ws_for (js := [4]) (((ei_range1 ee_int (by walk_at "rg") T.m_range)).to ⟨fun i ds' m' => ∃ (y4 y5 y6 y7 y8 : Option SD) (ts : List (List Nat)) (a' c' : Int), ts.length = i ∧ (∀ u ∈ ts, OkT u ∧ u.length ≤ 1000000) ∧ 0 ≤ a' ∧ (0 ≤ c' ∧ c' ≤ c + 3 * i) ∧ ds' = [some (.raw (.ref p)), some (S t), some (Ls W), some (.raw (.ref q)), y4, y5, y6, y7, y8] ∧ m' = (q, .dl (txts ts)) :: Pt p a' b c' :: m, ⟨_, _, _, _, _, [], a, c, rfl, (fun _ z => nomatch z), ha, ⟨hc.1, by omega⟩, rfl, rfl⟩, ?_, ?_⟩))
  · rintro i x ds' m' hx ⟨y4, y5, y6, y7, y8, ts, a1, c1, hlt, hok, ha1, hc1, rfl, rfl⟩
    have hi := get_lt hx
    rw [List.length_map, List.length_range] at hi
    have hi8 : i < 8 := hi
    refine wg_name ?_ sc__law_near.nd
    refine wss_cons (ws_set (i := 5) sc__law_near.nd (wg_call (ok__law_take T) (rm.mono (by decide)) T.m__law_take T.F__law_take.kp T.b__law_take (EA.to (ea_cons (ee_var (i := 0) rfl) (ea_cons (ee_callB (ea_cons (ee_var (i := 2) rfl) ea_nil) (fun m => by walk_at "ca") T.m_len bo_len) ea_nil)) ⟨[(q, _)], _, rfl, .mk ha1 hb ⟨hc1.1, by omega⟩ ⟨by omega, by omega⟩ hpf fun at_ a2 c2 e1 e2 e3 => ?_⟩)))
    refine wss_cons (ws_set (i := 6) sc__law_near.nd (wg_call (ok__law_of T) (rm.mono (by decide)) T.m__law_of T.F__law_of.kp T.b__law_of (EA.to (ea_cons (ee_var (i := 0) rfl) (ea_cons (ee_lst (eap_cons (ee_strS (l := [108])) (eap_cons (ee_strS (l := [102])) (eap_cons (ee_strS (l := [97])) (eap_cons (ee_strS (l := [])) (eap_cons (ee_strS (l := [55])) (eap_cons (ee_strS (l := [48, 48, 55])) (eap_cons (ee_strS (l := [45, 49])) (eap_cons (ee_strS (l := [32])) (eap_cons (ee_strS (l := [122, 32, 122])) (eap_cons (ee_strS (l := [49, 46, 53])) (eap_cons (ee_strS (l := [122, 122, 122, 122, 122, 122, 122, 122, 122, 122, 122, 122, 122, 122])) eap_nil)))))))))))) ea_nil)) ⟨[(q, _)], _, rfl, .mk e2 hb ⟨e3.1, by omega⟩ (by simp) hpf fun dm a3 c3 f1 f2 f3 => ?_⟩)))
    obtain ⟨mo, hmo, rfl⟩ := mem_txts (ls := morC) f1
    obtain ⟨hm1, hm2⟩ := mor_const hmo
    have k1 := (hWL.cut (lo := none) (hi := some at_)).len
    have k2 := (hWL.cut (lo := some (at_ + 1)) (hi := none)).len
    have k3 := (hWL.cut (lo := none) (hi := some (at_ + 1))).len
    have k4 := (hWL.cut (lo := some at_) (hi := none)).len
    have k5 := (hWL.cut (lo := none) (hi := some 1)).len
    have k6 := (hWL.cut (lo := some 1) (hi := none)).rev.len
    have k7 := (hWL.cut (lo := some 3) (hi := some 5)).len
    have k8 := (hWL.cut (lo := some 1) (hi := some 3)).len
    have k9 := (hWL.cut (lo := some 5) (hi := none)).len
    have k0 := hWL.len
    refine wss_cons (ws_setE (i := 7) sc__law_near.nd (ee_lst (eap_cons (ee_bin (ee_slice (ee_var (i := 2) rfl) eo_none (eo_some (ee_var (i := 5) rfl)) (fun m => by walk_at "sl")) (ee_slice (ee_var (i := 2) rfl) (eo_some (ee_bin (ee_var (i := 5) rfl) ee_int (by walk_at "bd"))) eo_none (fun m => by walk_at "sl")) (by walk_at "bd")) (eap_cons (ee_bin (ee_bin (ee_slice (ee_var (i := 2) rfl) eo_none (eo_some (ee_var (i := 5) rfl)) (fun m => by walk_at "sl")) (ee_lst (eap_cons (ee_var (i := 6) rfl) eap_nil)) (by walk_at "bd")) (ee_slice (ee_var (i := 2) rfl) (eo_some (ee_bin (ee_var (i := 5) rfl) ee_int (by walk_at "bd"))) eo_none (fun m => by walk_at "sl")) (by walk_at "bd")) (eap_cons (ee_bin (ee_slice (ee_var (i := 2) rfl) eo_none (eo_some (ee_bin (ee_var (i := 5) rfl) ee_int (by walk_at "bd"))) (fun m => by walk_at "sl")) (ee_slice (ee_var (i := 2) rfl) (eo_some (ee_var (i := 5) rfl)) eo_none (fun m => by walk_at "sl")) (by walk_at "bd")) eap_nil)))) ?_)
    refine wss_cons (ws_setE (i := 7) sc__law_near.nd (ee_bin (ee_var (i := 7) rfl) (ee_lst (eap_cons (ee_bin (ee_var (i := 2) rfl) (ee_lst (eap_cons (ee_var (i := 6) rfl) eap_nil)) (by walk_at "bd")) (eap_cons (ee_bin (ee_slice (ee_var (i := 2) rfl) eo_none (eo_some ee_int) (fun m => by walk_at "sl")) (ee_revL (ee_slice (ee_var (i := 2) rfl) (eo_some ee_int) eo_none (fun m => by walk_at "sl"))) (by walk_at "bd")) (eap_cons (ee_bin (ee_bin (ee_bin (ee_slice (ee_var (i := 2) rfl) eo_none (eo_some ee_int) (fun m => by walk_at "sl")) (ee_slice (ee_var (i := 2) rfl) (eo_some ee_int) (eo_some ee_int) (fun m => by walk_at "sl")) (by walk_at "bd")) (ee_slice (ee_var (i := 2) rfl) (eo_some ee_int) (eo_some ee_int) (fun m => by walk_at "sl")) (by walk_at "bd")) (ee_slice (ee_var (i := 2) rfl) (eo_some ee_int) eo_none (fun m => by walk_at "sl")) (by walk_at "bd")) eap_nil)))) (by walk_at "bd")) ?_)
    refine wss_one (ws_app (ee_var (i := 3) rfl) ⟨_, List.mem_cons_self⟩ (we_meth PySem.F.plainAttrs_str PySem.F.slot_str_join PySem.F.type_str_join (ee_strS (l := [10])) (fun m => ty_str) (wa_cons (wg_call (ok__law_of T) (rm.mono (by decide)) T.m__law_of T.F__law_of.kp T.b__law_of (EA.to (ea_cons (ee_var (i := 0) rfl) (ea_cons (ee_var (i := 7) rfl) ea_nil)) ⟨[(q, _)], _, rfl, .mk f2 hb ⟨f3.1, by omega⟩ (by simp) hpf fun dr a4 c4 g1 g2 g3 => ?_⟩)))))
    obtain ⟨lr, rfl, ls, rfl, hl1, hl2⟩ : ∃ lr, dr = .list lr ∧ WL 600 lr := by
      simp only [List.cons_append, List.nil_append, List.mem_cons, List.not_mem_nil, or_false] at g1
      rcases g1 with e | e | e | e | e | e
      · exact ⟨_, e, (hWL.cut.app hWL.cut).le (by decide)⟩
      · exact ⟨_, e, ((hWL.cut.app (WL.one hm1)).app hWL.cut).le (by decide)⟩
      · exact ⟨_, e, (hWL.cut.app hWL.cut).le (by decide)⟩
      · exact ⟨_, e, (hWL.app (WL.one hm1)).le (by decide)⟩
      · exact ⟨_, e, (hWL.cut.app hWL.cut.rev).le (by decide)⟩
      · exact ⟨_, e, (((hWL.cut.app hWL.cut).app hWL.cut).app hWL.cut).le (by decide)⟩
    refine wa_nil ⟨_, md_join (ls := ls) (join_fits hl1 (by omega)), _, _, rfl, List.mem_cons_self, by rw [List.length_map]; omega, _, _, _, _, _, ts ++ [joinL [10] ls], a4, c4, by rw [List.length_append, hlt]; rfl, fun u hu => ?_, g2, ⟨g3.1, by omega⟩, rfl, ?_⟩
    · rcases List.mem_append.mp hu with z | z
      · exact hok u z
      · rw [List.mem_singleton.mp z]
        refine ⟨join_ok hl1, ?_⟩
        have := join_len (k := 1000) (l := ls) fun w hw => (hl1 w hw).l
        have h6 : ls.length * (1000 + 1) ≤ 600 * (1000 + 1) := Nat.mul_le_mul_right _ hl2
        omega
    · rw [List.singleton_append, mset_head (hqa _ _)]
      unfold txts
      rw [List.map_append]
      rfl
  · rintro ds' m' ⟨y4, y5, y6, y7, y8, ts, a1, c1, hlt, hok, ha1, hc1, rfl, rfl⟩
    rw [List.length_map, List.length_range] at hlt hc1
    have hl8 : ts.length = 8 := hlt
    refine wss_seal (i := 3) rfl (wss_one (ws_retE (EE.is (ee_lcf (ts) (fun w => S w) (fun w => decide ((w.length : Int) ≤ 113) && specB w ) ( fun w => .str ⟨w.toArray⟩) [("one", 8)] rfl sc__law_near.nd (EI.is (ei_lst (ee_var (i := 3) rfl)) (txts_sd ts)) (by walk_at "sz") (fun a ha s H Ce cl fp => (by
      obtain ⟨o1, o2⟩ := hok a ha
      exact et_w (ew_and (et_cmp (ee_callB (ea_cons (ee_var (i := 8) rfl) ea_nil) (fun m => by walk_at "ca") T.m_len bo_len) ee_int (by walk_at "cd")) (fun hk => ew_and1 (et_val (eg_call (ok__law_is_specified T) (rm.mono (by decide)) T.m__law_is_specified T.F__law_is_specified.kp T.b__law_is_specified (ea_cons (ee_var (i := 8) rfl) ea_nil) (.mk o1 (by have := of_decide_eq_true hk; omega)))))))) (fun a ha hp s H Ce cl fp => (ee_var (i := 8) rfl)) (fun _ _ _ _ _ _ _ _ _ p => wg_name p sc__law_near.nd) (blkOk_by (by rfl))) (show _ = Ls (txts (ts.filter fun w => decide ((w.length : Int) ≤ 113) && specB w)) from rfl)) (h _ a1 c1 (fun u hu => ?_) ?_ ha1 ⟨hc1.1, by omega⟩)))
    · obtain ⟨q1, q2⟩ := List.mem_filter.mp hu
      rw [Bool.and_eq_true, decide_eq_true_eq] at q2
      exact ⟨(hok u q1).1, by omega⟩
    · exact Nat.le_trans (List.length_filter_le _ _) (by omega)
end
end K76
end W9
namespace W9
namespace K76
open PySem PySem.Spec PyProof.Rows L2
local macro_rules | `(tactic| walk_at "sz") => `(tactic| first | assumption | omega | decide | (simp only [List.length_append, List.length_map, List.length_cons, List.length_nil]; omega) | (simp only [List.length_zip, List.length_drop, List.length_map, List.length_append, List.length_cons, List.length_nil]; omega))
local macro_rules | `(tactic| walk_at "bd") => `(tactic| first | exact bd_add | exact bd_sub | exact bd_mul (by omega) | exact bd_mod (by omega) | exact bd_pow (by omega) | exact bd_powX (by decide +kernel) | exact bd_mod (by decide +kernel) | exact bd_mulB | exact bd_div (by omega) | exact bd_mulS ⟨by omega, by omega, by omega⟩ | exact bd_addS (by walk_at "sz") | exact bd_catL (by walk_at "sz"))
local macro_rules | `(tactic| walk_at "cd") => `(tactic| first | exact cd_lt | exact cd_le | exact cd_gt | exact cd_ge | exact cd_eq | exact cd_ne | exact cd_noneInF ‹Rm 0 _› | exact cd_neL ‹Rm 0 _› (by walk_at "pl") (by walk_at "pl") | exact cd_notinTs | exact cd_inTs ‹Rm 0 _› (by walk_at "pc") (by walk_at "pl") | exact cd_inS | exact cd_isN | exact cd_notN | exact cd_eqS | exact cd_neS | exact cd_ltS | exact cd_leS | exact cd_gtS)
local macro_rules | `(tactic| walk_at "md") => `(tactic| first | exact md_split (by walk_at "sz") | exact md_isdigit | exact md_joinS (by walk_at "sz"))
local macro_rules | `(tactic| walk_at "sd") => `(tactic| first | exact sd_ints (l := [2147483647, 2147483629, 2147483587, 2147483579, 2147483563]) (by omega) (by simp only [List.length_cons, List.length_nil]; omega) | exact sd_lst (at_nn (by decide) (txts_get (lns_head _))) | exact sd_lst rfl | exact sd_tup rfl)
local macro_rules | `(tactic| walk_at "sl") => `(tactic| first | exact sl_L | exact sl_S (by walk_at "sz"))
local macro_rules | `(tactic| walk_at "rg") => `(tactic| omega)
local macro_rules | `(tactic| walk_at "ca") => `(tactic| first | exact ca_isiStr | exact ca_isiII | exact ca_isiIB | exact ca_isiTT | exact ca_isiIT | exact ca_isiST | exact ca_allm rfl | exact ca_anym rfl | exact ca_lenS (by walk_at "sz") | exact ca_lenL | exact ca_lenT | exact ca_tupL | exact ca_int | exact ca_intB | exact ca_strI (by walk_at "sz") | exact ca_abs | exact ca_max2 rfl | exact ca_min2 rfl)
local macro_rules | `(tactic| walk_at "fl") => `(tactic| first | rfl | simp)
local macro_rules | `(tactic| walk_at "rep") => `(tactic| assumption)
local macro_rules | `(tactic| walk_at "zz") => `(tactic| exact Nat.le_trans (Nat.min_le_right _ _) (by simp only [List.length_map]; omega))
local macro_rules | `(tactic| walk_at "call is_sheet") => `(tactic| exact .mk (by assumption))
local macro_rules | `(tactic| walk_at "ss") => `(tactic| walk_at "sz")
local macro_rules | `(tactic| walk_at "pl") => `(tactic| assumption)
local macro_rules | `(tactic| walk_at "pc") => `(tactic| assumption)
local macro_rules | `(tactic| walk_at "call is_whole") => `(tactic| exact .mk)
local macro_rules | `(tactic| walk_at "call is_integer") => `(tactic| exact .mk)
local macro_rules | `(tactic| walk_at "call is_tuple") => `(tactic| first | exact .tup | exact .int)
local macro_rules | `(tactic| walk_at "call is_string") => `(tactic| first | exact .new | exact .kd)
local macro_rules | `(tactic| walk_at "call is_page_text") => `(tactic| exact .mk (by assumption) (by assumption))
local macro_rules | `(tactic| walk_at "call is_child") => `(tactic| first | exact .n | exact .nw)
local macro_rules | `(tactic| walk_at "call sheet_of") => `(tactic| exact .mk (by assumption) (by assumption))
local macro_rules | `(tactic| walk_at "call sheet_in") => `(tactic| exact .mk (by assumption) (by assumption))
local macro_rules | `(tactic| walk_at "call _law_map_sheet") => `(tactic| exact .mk (by assumption) (by assumption))
local macro_rules | `(tactic| walk_at "call _law_read") => `(tactic| exact .mk (by assumption) (by assumption))
local macro_rules | `(tactic| walk_at "call _law_is_specified") => `(tactic| exact .mk (by assumption) (by assumption))
local macro_rules | `(tactic| walk_at "call sheet_text") => `(tactic| exact .mk (by assumption) (by assumption) (by assumption) (by assumption))
local macro_rules | `(tactic| walk_at "call _law_text") => `(tactic| exact .mk (by assumption) (by assumption) (by assumption) (by assumption))
local macro_rules | `(tactic| walk_at "call are_signs") => `(tactic| exact .mk (by assumption))
local macro_rules | `(tactic| walk_at "call is_key") => `(tactic| first | exact .mk (by assumption) | exact .mk (by solve_by_elim) | exact .mk (by walk_at "wd"))
local macro_rules | `(tactic| walk_at "call is_value") => `(tactic| first | exact .mk (by assumption) | exact .mk (by solve_by_elim) | exact .mk (by walk_at "wd"))
local macro_rules | `(tactic| walk_at "call long_whole_in") => `(tactic| exact .mk (by assumption))
local macro_rules | `(tactic| walk_at "call whole_in") => `(tactic| first | exact .mk (by assumption) | exact .mk (by solve_by_elim) | exact .mk (by walk_at "wd"))
local macro_rules | `(tactic| walk_at "call _law_map_is_key") => `(tactic| first | exact .mk (by assumption) | exact .mk (by solve_by_elim) | exact .mk (by walk_at "wd"))
local macro_rules | `(tactic| walk_at "call _law_map_is_value") => `(tactic| first | exact .mk (by assumption) | exact .mk (by solve_by_elim) | exact .mk (by walk_at "wd"))
local macro_rules | `(tactic| walk_at "call _law_map_number") => `(tactic| first | exact .mk (by assumption) | exact .mk (by solve_by_elim) | exact .mk (by walk_at "wd"))
local macro_rules | `(tactic| walk_at "call _law_cells") => `(tactic| exact .mk)

local macro_rules | `(tactic| walk_at "call written") => `(tactic| exact .mk (by assumption) (by assumption) (by assumption) (by assumption) (by omega))
inductive F__law_right : FT
  | mk {p : Addr} {a b : Int} {m : MS} {P : SD → MS → Prop} (ha : 0 ≤ a) (hb : PB b) (hpf : p ∉ ad m) (h : ∀ (a' c' : Int), P (B true) (Pt p a' b c' :: m)) : F__law_right [.raw (.ref p)] (Pt p a b 0 :: m) P
def cellsN (n : Nat) : Int := if (if (n : Int) < 2 then (n : Int) else 2) > 1 then (if (n : Int) < 2 then (n : Int) else 2) else 1
theorem cellsN_le (n : Nat) : 0 ≤ cellsN n ∧ cellsN n ≤ 2 := by
  unfold cellsN
  split <;> split <;> omega
inductive R__law_cells : List SD → SD → Prop
  | mk {ns : List Int} : R__law_cells [Ls (ns.map .int), I 2] (Ls ((List.range (cellsN ns.length).toNat).map fun (i : Nat) => PyData.int (i : Int)))
inductive F_law : FT
  | mk {ns : List Int} {m : MS} {P : SD → MS → Prop} (hl : ns.length ≤ 63) (h : P (B true) m) : F_law [Ls (ns.map .int)] m P
section
variable {P : Program} {w : World} {K : PySem.W.Frag} {mg : Str → Option Value} {base : Heap}
theorem ok__law_right (T : Tx K mg) : FnG P w K mg base CX0 7 T.a__law_right T.d__law_right ["pot"] (SpD K F__law_right) := by
  refine fnD_ok T.F__law_right sc__law_right (fun xs m Pp h => by cases h <;> rfl) (fun cdv A outer s H E rm xs m Pp hF => ?_)
  cases hF with | @mk p a b m Pp ha hb hpf h =>
  refine wss_cons (ws_for (js := [1]) (((ei_range1 ee_int (by walk_at "rg") T.m_range)).to ⟨fun i ds' m' => ∃ (y1 y2 y3 y4 y5 y6 : Option SD) (a' c' : Int), 0 ≤ a' ∧ (0 ≤ c' ∧ c' ≤ 300 * i) ∧ ds' = [some (.raw (.ref p)), y1, y2, y3, y4, y5, y6] ∧ m' = Pt p a' b c' :: m, ⟨none, none, none, none, none, none, a, 0, ha, by omega, rfl, rfl⟩, ?_, ?_⟩))
  · rintro i x ds' m' hx ⟨y1, y2, y3, y4, y5, y6, a1, c1, ha1, hc1, rfl, rfl⟩
    have hi := get_lt hx
    rw [List.length_map, List.length_range] at hi
    have hi2 : i < 5 := hi
    refine wg_name ?_ sc__law_right.nd
    refine wss_cons (ws_set (i := 2) sc__law_right.nd (wg_call (ok__law_sheet T) (rm.mono (by decide)) T.m__law_sheet T.F__law_sheet.kp T.b__law_sheet (EA.to (ea_cons (ee_var (i := 0) rfl) ea_nil) ⟨[], _, rfl, .mk ha1 hb ⟨hc1.1, by omega⟩ hpf fun s a2 c2 hsd h2 h3 => ?_⟩)))
    refine wss_cons (ws_set (i := 3) sc__law_right.nd (we_callTy (wa_cons (we_lcI (fun j acc m' => ∃ (ps : List Int) (a' c' : Int), (∀ k ∈ ps, 0 ≤ k ∧ k < 600) ∧ ps.length = j ∧ acc = ps.map .int ∧ 0 ≤ a' ∧ (0 ≤ c' ∧ c' ≤ c2 + j) ∧ m' = Pt p a' b c' :: m) [("child", 6)] rfl sc__law_right.nd
      (EI.to (ei_range1 ee_int (by walk_at "rg") T.m_range) ⟨by rw [List.length_map, List.length_range]; decide, ⟨[], a2, c2, (fun _ z => nomatch z), rfl, rfl, h2, ⟨h3.1, by omega⟩, rfl⟩, ?_, ?_⟩)
      (fun _ _ _ _ _ _ _ _ _ p => wg_name p sc__law_right.nd) (blkOk_by (by rfl)))) T.m_tuple bo_tuple))
    · rintro j y acc m' hy hj ⟨ps, a3, c3, hps, hlen, rfl, ha3, hc3, rfl⟩ s' H Ce cl fp
      have hlt := get_lt hy
      rw [List.length_map, List.length_range] at hlt
      have hlt5 : j < 5 := hlt
      refine (wg_call (ok__law_take T) (rm.mono (by decide)) T.m__law_take T.F__law_take.kp T.b__law_take (EA.to (ea_cons (ee_var (i := 0) rfl) (ea_cons ee_int ea_nil)) ⟨[], _, rfl, .mk ha3 hb ⟨hc3.1, by omega⟩ (by decide) hpf fun d a4 c4 e1 e2 e3 => ?_⟩))
      refine ⟨_, rfl, ps ++ [d], a4, c4, fun k hk => ?_, by rw [List.length_append, hlen]; rfl, by rw [List.map_append]; rfl, e2, ⟨e3.1, by omega⟩, rfl⟩
      rcases List.mem_append.mp hk with z | z
      · exact hps k z
      · rw [List.mem_singleton.mp z]; exact e1
    · rintro acc m' hj ⟨ps, a3, c3, hps, hlen, rfl, ha3, hc3, rfl⟩
      rw [List.length_map, List.length_range] at hlen hc3
      have hl5 : ps.length = 5 := hlen
      have hsf := hsd.f
      have hsi := hsd.in_ hl5 hps
      have hsb := hsd.b
      have hpr := ps_inR hps
      have htl := text_len hsd hsi hps
      have hto : OkT (textS s ps) := join_ok (words_wrd hsf hsi)
      refine wa_nil ⟨_, ca_tupL, ?_⟩
      refine wss_cons (ws_setE (i := 4) sc__law_right.nd (eg_call (ok__law_text T) (rm.mono (by decide)) T.m__law_text T.F__law_text.kp T.b__law_text (ea_cons (ee_var (i := 2) rfl) (ea_cons (ee_var (i := 3) rfl) ea_nil)) (.mk hsf hsi)) ?_)
      refine wss_cons (ws_ife (k := false) (ET.is (et_cmp (eg_callK (ks := ["places", "sheet"]) (gU := sw2) (gV := sw2) (ok_written T) (rm.mono (by decide)) T.m_written T.F_written.kp T.bk_written rfl (fun _ _ h => sw_vals h) (fun _ _ h => sw_dss h) (ek_cons (ee_var (i := 3) rfl) (ek_cons (ee_var (i := 2) rfl) ek_nil)) (by walk_at "call written")) (ee_var (i := 4) rfl) (by walk_at "cd")) (by simp)) (fun z => by cases z) fun _ => wss_nil ?_)
      generalize textS s ps = due at htl hto
      refine wss_one (ws_for (js := [5]) (wi_lst (we_bin (EE.to (ee_lst (eap_cons (ee_var (i := 4) rfl) eap_nil)) (wg_call (ok__law_near T) (rm.mono (by decide)) T.m__law_near T.F__law_near.kp T.b__law_near (EA.to (ea_cons (ee_var (i := 0) rfl) (ea_cons (ee_var (i := 4) rfl) ea_nil)) ⟨[], _, rfl, .mk ha3 hb ⟨hc3.1, by omega⟩ hpf hto htl fun ts a4 c4 k1 k2 k3 k4 => ⟨_, bd_catL (by rw [List.length_map]; simp only [List.length_cons, List.length_nil]; omega), _, rfl, fun j ds' m' => ∃ (z5 z6 : Option SD), ds' = [some (.raw (.ref p)), some x, some (.py (shP s)), some (Tp (ps.map .int)), some (S due), z5, z6] ∧ m' = Pt p a4 b c4 :: m, ⟨_, _, rfl, rfl⟩, ?_, ?_⟩⟩))))))
      · rintro j z ds' m' hz ⟨z5, z6, rfl, rfl⟩
        obtain ⟨d, hd, rfl⟩ := map_get hz
        obtain ⟨u, hu1, hu2, rfl⟩ : ∃ u : List Nat, OkT u ∧ u.length ≤ 113 ∧ d = .str ⟨u.toArray⟩ := by
          rcases List.mem_append.mp (List.mem_of_getElem? hd) with e | e
          · exact ⟨due, hto, htl, List.mem_singleton.mp e⟩
          · obtain ⟨u, hu, rfl⟩ := mem_txts e
            exact ⟨u, (k1 u hu).1, (k1 u hu).2, rfl⟩
        refine wg_name ?_ sc__law_right.nd
        have hr1 : Rep (shO (readP u)) := rep_read hu1 hu2
        have hr2 : Rep (shO (lawRead u)) := by rw [← read_same]; exact hr1
        exact wss_one (ws_ife (k := false) (ET.is (et_cmp (ee_reprR (eg_callK (ks := ["text"]) (gU := id) (gV := id) (ok_sheet_in T) (rm.mono (by decide)) T.m_sheet_in T.F_sheet_in.kp T.bk_sheet_in rfl (fun _ _ h => h) (fun _ _ h => h) (ek_cons (ee_var (i := 5) rfl) ek_nil) (by walk_at "call sheet_in")) (rm.mono (by decide)) (by walk_at "rep") T.m_repr) (ee_reprR (eg_call (ok__law_read T) (rm.mono (by decide)) T.m__law_read T.F__law_read.kp T.b__law_read (ea_cons (ee_var (i := 5) rfl) ea_nil) (by walk_at "call _law_read")) (rm.mono (by decide)) (by walk_at "rep") T.m_repr) cd_neT) (by rw [read_same]; simp)) (fun z => by cases z) fun _ => wss_nil ⟨_, _, rfl, rfl⟩)
      · rintro ds' m' ⟨z5, z6, rfl, rfl⟩
        exact ⟨_, _, _, _, _, _, a4, c4, k3, ⟨k4.1, by omega⟩, rfl, rfl⟩
  · rintro ds' m' ⟨y1, y2, y3, y4, y5, y6, a1, c1, ha1, hc1, rfl, rfl⟩
    have hr1 : Rep (shO (readP [])) := rep_read (fun _ z => nomatch z) (by decide)
    refine wss_one (ws_retE (EE.is (ee_cmp (ee_reprR (eg_call (ok_sheet_in T) (rm.mono (by decide)) T.m_sheet_in T.F_sheet_in.kp T.b_sheet_in (ea_cons (ee_strS (l := [])) ea_nil) (.mk (fun _ z => nomatch z) (by decide))) (rm.mono (by decide)) hr1 T.m_repr) (ee_strS (l := [78, 111, 110, 101])) cd_eqT) (B_eq (b := true) ?_)) (h a1 c1))
    rw [read_nil]
    decide +kernel
theorem ok__law_cells (T : Tx K mg) : FnG P w K mg base CX0 1 T.a__law_cells T.d__law_cells ["script", "most"] (SpD K (pureF R__law_cells)) := by
  refine fnD_ok T.F__law_cells sc__law_cells (fun xs m Pp ⟨d, h, _⟩ => by cases h <;> rfl) (fun cdv A outer s H E rm xs m Pp ⟨d, hR, hp⟩ => ?_)
  cases hR with | @mk ns =>
  refine wss_one (ws_retE (EE.is (ee_listRg (n := cellsN ns.length) (EE.is (ee_callB (ea_cons ee_int (ea_cons (ee_callB (ea_cons (ee_var (i := 1) rfl) (ea_cons (ee_callB (ea_cons (ee_var (i := 0) rfl) ea_nil) (fun m => by walk_at "ca") T.m_len bo_len) ea_nil)) (fun m => by walk_at "ca") T.m_min bo_min) ea_nil)) (fun m => by walk_at "ca") T.m_max bo_max) (I_eq ?_)) ⟨(cellsN_le _).1, by have := (cellsN_le ns.length).2; omega⟩ T.m_list T.m_range) rfl) hp)
  unfold cellsN
  rw [List.length_map]
theorem ok_law (T : Tx K mg) : FnG P w K mg base CX0 8 T.a_law T.d_law ["script"] (SpD K F_law) := by
  refine fnD_ok T.F_law sc_law (fun xs m Pp h => by cases h <;> rfl) (fun cdv A outer s H E rm xs m Pp hF => ?_)
  cases hF with | @mk ns m Pp hl h =>
  refine wss_one (ws_ret (we_callB (wa_cons (we_lcI (fun i acc m' => acc = List.replicate i (PyData.bool true) ∧ m' = m) [("place", 1)] rfl sc_law.nd
    (EI.to (ei_lst (eg_call (ok__law_cells T) (rm.mono (by decide)) T.m__law_cells T.F__law_cells.kp T.b__law_cells (ea_cons (ee_var (i := 0) rfl) (ea_cons ee_int ea_nil)) (by walk_at "call _law_cells"))) ⟨by rw [List.length_map, List.length_map, List.length_range]; have := (cellsN_le ns.length).2; omega, ⟨rfl, rfl⟩, ?_, ?_⟩)
    (fun _ _ _ _ _ _ _ _ _ p => wg_name p sc_law.nd) (blkOk_by (by rfl)))) T.m_all bo_all))
  · rintro i y acc m' hy hi ⟨rfl, rfl⟩ s H Ce cl fp
    obtain ⟨d, hd, rfl⟩ := map_get hy
    obtain ⟨k, hk, rfl⟩ := map_get hd
    have hk2 := List.mem_range.mp (List.mem_of_getElem? hk)
    have hc := cellsN_le ns.length
    refine WE.drop (wg_call (ok__law_right T) (rm.mono (by decide)) T.m__law_right T.F__law_right.kp T.b__law_right (wa_cons (wg_call (ok__law_pot T) (rm.mono (by decide)) T.m__law_pot T.F__law_pot.kp T.b__law_pot (EA.to (ea_cons (ee_var (i := 0) rfl) (ea_cons (ee_var (i := 1) rfl) ea_nil)) ⟨[], _, rfl, .mk hl (by omega) fun p a b hpf ha hb => wa_nil ⟨[], _, rfl, .mk ha hb hpf fun a' c' => ⟨_, _, rfl, _, rfl, ?_, rfl⟩⟩⟩))))
    rw [List.replicate_succ']
  · rintro acc m' hi ⟨rfl, rfl⟩
    refine wa_nil ⟨_, ca_allT, h⟩
end
end K76
end W9
namespace W9
namespace K76
open PySem PySem.Spec PyProof.Rows L2
theorem all_mk {l : PySem.W.OpenLaw} {w : World} {K : PySem.W.Frag} {h : Heap} {mg : Str → Option Value} {fa : Addr} (X : K.In h) (G : h.Ns mainGlobals mg) (hfa : mg "law" = some (.ref fa))
    {f1 : Addr} {od1 an1 : Option Addr} {sl1 : Array (Option Value)} {oc1 kV1 dc1 pm1 cd1 ct1 : Value}
    {f2 : Addr} {od2 an2 : Option Addr} {sl2 : Array (Option Value)} {oc2 kV2 dc2 pm2 cd2 ct2 : Value}
    {f3 : Addr} {od3 an3 : Option Addr} {sl3 : Array (Option Value)} {oc3 kV3 dc3 pm3 cd3 ct3 : Value}
    {f4 : Addr} {od4 an4 : Option Addr} {sl4 : Array (Option Value)} {oc4 kV4 dc4 pm4 cd4 ct4 : Value}
    {f5 : Addr} {od5 an5 : Option Addr} {sl5 : Array (Option Value)} {oc5 kV5 dc5 pm5 cd5 ct5 : Value}
    {f6 : Addr} {od6 an6 : Option Addr} {sl6 : Array (Option Value)} {oc6 kV6 dc6 pm6 cd6 ct6 : Value}
    {f7 : Addr} {od7 an7 : Option Addr} {sl7 : Array (Option Value)} {oc7 kV7 dc7 pm7 cd7 ct7 : Value}
    {f8 : Addr} {od8 an8 : Option Addr} {sl8 : Array (Option Value)} {oc8 kV8 dc8 pm8 cd8 ct8 : Value}
    {f9 : Addr} {od9 an9 : Option Addr} {sl9 : Array (Option Value)} {oc9 kV9 dc9 pm9 cd9 ct9 : Value}
    {f10 : Addr} {od10 an10 : Option Addr} {sl10 : Array (Option Value)} {oc10 kV10 dc10 pm10 cd10 ct10 : Value}
    {f11 : Addr} {od11 an11 : Option Addr} {sl11 : Array (Option Value)} {oc11 kV11 dc11 pm11 cd11 ct11 : Value}
    {f12 : Addr} {od12 an12 : Option Addr} {sl12 : Array (Option Value)} {oc12 kV12 dc12 pm12 cd12 ct12 : Value}
    {f13 : Addr} {od13 an13 : Option Addr} {sl13 : Array (Option Value)} {oc13 kV13 dc13 pm13 cd13 ct13 : Value}
    {f14 : Addr} {od14 an14 : Option Addr} {sl14 : Array (Option Value)} {oc14 kV14 dc14 pm14 cd14 ct14 : Value}
    {f15 : Addr} {od15 an15 : Option Addr} {sl15 : Array (Option Value)} {oc15 kV15 dc15 pm15 cd15 ct15 : Value}
    {f16 : Addr} {od16 an16 : Option Addr} {sl16 : Array (Option Value)} {oc16 kV16 dc16 pm16 cd16 ct16 : Value}
    {f17 : Addr} {od17 an17 : Option Addr} {sl17 : Array (Option Value)} {oc17 kV17 dc17 pm17 cd17 ct17 : Value}
    {f18 : Addr} {od18 an18 : Option Addr} {sl18 : Array (Option Value)} {oc18 kV18 dc18 pm18 cd18 ct18 : Value}
    {f19 : Addr} {od19 an19 : Option Addr} {sl19 : Array (Option Value)} {oc19 kV19 dc19 pm19 cd19 ct19 : Value}
    {f20 : Addr} {od20 an20 : Option Addr} {sl20 : Array (Option Value)} {oc20 kV20 dc20 pm20 cd20 ct20 : Value}
    {f21 : Addr} {od21 an21 : Option Addr} {sl21 : Array (Option Value)} {oc21 kV21 dc21 pm21 cd21 ct21 : Value}
    {f22 : Addr} {od22 an22 : Option Addr} {sl22 : Array (Option Value)} {oc22 kV22 dc22 pm22 cd22 ct22 : Value}
    {f23 : Addr} {od23 an23 : Option Addr} {sl23 : Array (Option Value)} {oc23 kV23 dc23 pm23 cd23 ct23 : Value}
    {f24 : Addr} {od24 an24 : Option Addr} {sl24 : Array (Option Value)} {oc24 kV24 dc24 pm24 cd24 ct24 : Value}
    {f25 : Addr} {od25 an25 : Option Addr} {sl25 : Array (Option Value)} {oc25 kV25 dc25 pm25 cd25 ct25 : Value}
    {f26 : Addr} {od26 an26 : Option Addr} {sl26 : Array (Option Value)} {oc26 kV26 dc26 pm26 cd26 ct26 : Value}
    {f27 : Addr} {od27 an27 : Option Addr} {sl27 : Array (Option Value)} {oc27 kV27 dc27 pm27 cd27 ct27 : Value}
    {f28 : Addr} {od28 an28 : Option Addr} {sl28 : Array (Option Value)} {oc28 kV28 dc28 pm28 cd28 ct28 : Value}
    {f29 : Addr} {od29 an29 : Option Addr} {sl29 : Array (Option Value)} {oc29 kV29 dc29 pm29 cd29 ct29 : Value}
    {f30 : Addr} {od30 an30 : Option Addr} {sl30 : Array (Option Value)} {oc30 kV30 dc30 pm30 cd30 ct30 : Value}
    {f31 : Addr} {od31 an31 : Option Addr} {sl31 : Array (Option Value)} {oc31 kV31 dc31 pm31 cd31 ct31 : Value}
    {f32 : Addr} {od32 an32 : Option Addr} {sl32 : Array (Option Value)} {oc32 kV32 dc32 pm32 cd32 ct32 : Value}
    {f33 : Addr} {od33 an33 : Option Addr} {sl33 : Array (Option Value)} {oc33 kV33 dc33 pm33 cd33 ct33 : Value}
    {f34 : Addr} {od34 an34 : Option Addr} {sl34 : Array (Option Value)} {oc34 kV34 dc34 pm34 cd34 ct34 : Value}
    {t53 : Tok} {x53 : Str}
    {t54 : Tok} {x54 : Str}
    {t55 : Tok} {x55 : Str}
    {t56 : Tok} {x56 : Str}
    {t57 : Tok} {x57 : Str}
    {t58 : Tok} {x58 : Str}
    {t59 : Tok} {x59 : Str}
    {t60 : Tok}
    {t61 : Tok}
    {t62 : Tok}
    {t63 : Tok}
    {t64 : Tok} {x64 : Str}
    {t65 : Tok} {x65 : Str}
    {t66 : Tok} {x66 : Str}
    {t67 : Tok} {x67 : Str}
    {t68 : Tok} {x68 : Str}
    {t69 : Tok}
    {t70 : Tok}
    {t71 : Tok}
    {t72 : Tok}
    (a1 : PySem.W.nsIn K mainGlobals "is_whole" = some (some (.ref f1))) (l1 : K.lookup f1 = some ⟨oc1, od1, .func (PySem.W.fnOf "is_whole" "is_whole" (defArgs (topS 12)) (defBody (topS 12)) (defScope (topS 12)) .none kV1 dc1 pm1 an1 cd1 ct1), sl1⟩) (c1 : PySem.W.codeIn K cd1 "is_whole" = true) (k1 : PySem.W.keepIn K (.ref f1) = true)
    (a2 : PySem.W.nsIn K mainGlobals "is_integer" = some (some (.ref f2))) (l2 : K.lookup f2 = some ⟨oc2, od2, .func (PySem.W.fnOf "is_integer" "is_integer" (defArgs (topS 13)) (defBody (topS 13)) (defScope (topS 13)) .none kV2 dc2 pm2 an2 cd2 ct2), sl2⟩) (c2 : PySem.W.codeIn K cd2 "is_integer" = true) (k2 : PySem.W.keepIn K (.ref f2) = true)
    (a3 : PySem.W.nsIn K mainGlobals "is_tuple" = some (some (.ref f3))) (l3 : K.lookup f3 = some ⟨oc3, od3, .func (PySem.W.fnOf "is_tuple" "is_tuple" (defArgs (topS 14)) (defBody (topS 14)) (defScope (topS 14)) .none kV3 dc3 pm3 an3 cd3 ct3), sl3⟩) (c3 : PySem.W.codeIn K cd3 "is_tuple" = true) (k3 : PySem.W.keepIn K (.ref f3) = true)
    (a4 : PySem.W.nsIn K mainGlobals "is_string" = some (some (.ref f4))) (l4 : K.lookup f4 = some ⟨oc4, od4, .func (PySem.W.fnOf "is_string" "is_string" (defArgs (topS 15)) (defBody (topS 15)) (defScope (topS 15)) .none kV4 dc4 pm4 an4 cd4 ct4), sl4⟩) (c4 : PySem.W.codeIn K cd4 "is_string" = true) (k4 : PySem.W.keepIn K (.ref f4) = true)
    (a5 : PySem.W.nsIn K mainGlobals "are_signs" = some (some (.ref f5))) (l5 : K.lookup f5 = some ⟨oc5, od5, .func (PySem.W.fnOf "are_signs" "are_signs" (defArgs (topS 16)) (defBody (topS 16)) (defScope (topS 16)) .none kV5 dc5 pm5 an5 cd5 ct5), sl5⟩) (c5 : PySem.W.codeIn K cd5 "are_signs" = true) (k5 : PySem.W.keepIn K (.ref f5) = true)
    (a6 : PySem.W.nsIn K mainGlobals "is_page_text" = some (some (.ref f6))) (l6 : K.lookup f6 = some ⟨oc6, od6, .func (PySem.W.fnOf "is_page_text" "is_page_text" (defArgs (topS 17)) (defBody (topS 17)) (defScope (topS 17)) .none kV6 dc6 pm6 an6 cd6 ct6), sl6⟩) (c6 : PySem.W.codeIn K cd6 "is_page_text" = true) (k6 : PySem.W.keepIn K (.ref f6) = true)
    (a7 : PySem.W.nsIn K mainGlobals "is_key" = some (some (.ref f7))) (l7 : K.lookup f7 = some ⟨oc7, od7, .func (PySem.W.fnOf "is_key" "is_key" (defArgs (topS 18)) (defBody (topS 18)) (defScope (topS 18)) .none kV7 dc7 pm7 an7 cd7 ct7), sl7⟩) (c7 : PySem.W.codeIn K cd7 "is_key" = true) (k7 : PySem.W.keepIn K (.ref f7) = true)
    (a8 : PySem.W.nsIn K mainGlobals "is_value" = some (some (.ref f8))) (l8 : K.lookup f8 = some ⟨oc8, od8, .func (PySem.W.fnOf "is_value" "is_value" (defArgs (topS 19)) (defBody (topS 19)) (defScope (topS 19)) .none kV8 dc8 pm8 an8 cd8 ct8), sl8⟩) (c8 : PySem.W.codeIn K cd8 "is_value" = true) (k8 : PySem.W.keepIn K (.ref f8) = true)
    (a9 : PySem.W.nsIn K mainGlobals "long_whole_in" = some (some (.ref f9))) (l9 : K.lookup f9 = some ⟨oc9, od9, .func (PySem.W.fnOf "long_whole_in" "long_whole_in" (defArgs (topS 20)) (defBody (topS 20)) (defScope (topS 20)) .none kV9 dc9 pm9 an9 cd9 ct9), sl9⟩) (c9 : PySem.W.codeIn K cd9 "long_whole_in" = true) (k9 : PySem.W.keepIn K (.ref f9) = true)
    (a10 : PySem.W.nsIn K mainGlobals "whole_in" = some (some (.ref f10))) (l10 : K.lookup f10 = some ⟨oc10, od10, .func (PySem.W.fnOf "whole_in" "whole_in" (defArgs (topS 21)) (defBody (topS 21)) (defScope (topS 21)) .none kV10 dc10 pm10 an10 cd10 ct10), sl10⟩) (c10 : PySem.W.codeIn K cd10 "whole_in" = true) (k10 : PySem.W.keepIn K (.ref f10) = true)
    (a11 : PySem.W.nsIn K mainGlobals "are_ascending" = some (some (.ref f11))) (l11 : K.lookup f11 = some ⟨oc11, od11, .func (PySem.W.fnOf "are_ascending" "are_ascending" (defArgs (topS 37)) (defBody (topS 37)) (defScope (topS 37)) .none kV11 dc11 pm11 an11 cd11 ct11), sl11⟩) (c11 : PySem.W.codeIn K cd11 "are_ascending" = true) (k11 : PySem.W.keepIn K (.ref f11) = true)
    (a12 : PySem.W.nsIn K mainGlobals "is_child" = some (some (.ref f12))) (l12 : K.lookup f12 = some ⟨oc12, od12, .func (PySem.W.fnOf "is_child" "is_child" (defArgs (topS 38)) (defBody (topS 38)) (defScope (topS 38)) .none kV12 dc12 pm12 an12 cd12 ct12), sl12⟩) (c12 : PySem.W.codeIn K cd12 "is_child" = true) (k12 : PySem.W.keepIn K (.ref f12) = true)
    (a13 : PySem.W.nsIn K mainGlobals "is_sheet" = some (some (.ref f13))) (l13 : K.lookup f13 = some ⟨oc13, od13, .func (PySem.W.fnOf "is_sheet" "is_sheet" (defArgs (topS 39)) (defBody (topS 39)) (defScope (topS 39)) .none kV13 dc13 pm13 an13 cd13 ct13), sl13⟩) (c13 : PySem.W.codeIn K cd13 "is_sheet" = true) (k13 : PySem.W.keepIn K (.ref f13) = true)
    (a14 : PySem.W.nsIn K mainGlobals "sheet_of" = some (some (.ref f14))) (l14 : K.lookup f14 = some ⟨oc14, od14, .func (PySem.W.fnOf "sheet_of" "sheet_of" (defArgs (topS 40)) (defBody (topS 40)) (defScope (topS 40)) .none kV14 dc14 pm14 an14 cd14 ct14), sl14⟩) (c14 : PySem.W.codeIn K cd14 "sheet_of" = true) (k14 : PySem.W.keepIn K (.ref f14) = true)
    (a15 : PySem.W.nsIn K mainGlobals "sheet_in" = some (some (.ref f15))) (l15 : K.lookup f15 = some ⟨oc15, od15, .func (PySem.W.fnOf "sheet_in" "sheet_in" (defArgs (topS 41)) (defBody (topS 41)) (defScope (topS 41)) .none kV15 dc15 pm15 an15 cd15 ct15), sl15⟩) (c15 : PySem.W.codeIn K cd15 "sheet_in" = true) (k15 : PySem.W.keepIn K (.ref f15) = true)
    (a16 : PySem.W.nsIn K mainGlobals "sheet_text" = some (some (.ref f16))) (l16 : K.lookup f16 = some ⟨oc16, od16, .func (PySem.W.fnOf "sheet_text" "sheet_text" (defArgs (topS 42)) (defBody (topS 42)) (defScope (topS 42)) .none kV16 dc16 pm16 an16 cd16 ct16), sl16⟩) (c16 : PySem.W.codeIn K cd16 "sheet_text" = true) (k16 : PySem.W.keepIn K (.ref f16) = true)
    (a17 : PySem.W.nsIn K mainGlobals "written" = some (some (.ref f17))) (l17 : K.lookup f17 = some ⟨oc17, od17, .func (PySem.W.fnOf "written" "written" (defArgs (topS 43)) (defBody (topS 43)) (defScope (topS 43)) .none kV17 dc17 pm17 an17 cd17 ct17), sl17⟩) (c17 : PySem.W.codeIn K cd17 "written" = true) (k17 : PySem.W.keepIn K (.ref f17) = true)
    (a18 : PySem.W.nsIn K mainGlobals "_law_pot" = some (some (.ref f18))) (l18 : K.lookup f18 = some ⟨oc18, od18, .func (PySem.W.fnOf "_law_pot" "_law_pot" (defArgs (topS 45)) (defBody (topS 45)) (defScope (topS 45)) .none kV18 dc18 pm18 an18 cd18 ct18), sl18⟩) (c18 : PySem.W.codeIn K cd18 "_law_pot" = true) (k18 : PySem.W.keepIn K (.ref f18) = true)
    (a19 : PySem.W.nsIn K mainGlobals "_law_take" = some (some (.ref f19))) (l19 : K.lookup f19 = some ⟨oc19, od19, .func (PySem.W.fnOf "_law_take" "_law_take" (defArgs (topS 46)) (defBody (topS 46)) (defScope (topS 46)) .none kV19 dc19 pm19 an19 cd19 ct19), sl19⟩) (c19 : PySem.W.codeIn K cd19 "_law_take" = true) (k19 : PySem.W.keepIn K (.ref f19) = true)
    (a20 : PySem.W.nsIn K mainGlobals "_law_of" = some (some (.ref f20))) (l20 : K.lookup f20 = some ⟨oc20, od20, .func (PySem.W.fnOf "_law_of" "_law_of" (defArgs (topS 47)) (defBody (topS 47)) (defScope (topS 47)) .none kV20 dc20 pm20 an20 cd20 ct20), sl20⟩) (c20 : PySem.W.codeIn K cd20 "_law_of" = true) (k20 : PySem.W.keepIn K (.ref f20) = true)
    (a21 : PySem.W.nsIn K mainGlobals "_law_cells" = some (some (.ref f21))) (l21 : K.lookup f21 = some ⟨oc21, od21, .func (PySem.W.fnOf "_law_cells" "_law_cells" (defArgs (topS 48)) (defBody (topS 48)) (defScope (topS 48)) .none kV21 dc21 pm21 an21 cd21 ct21), sl21⟩) (c21 : PySem.W.codeIn K cd21 "_law_cells" = true) (k21 : PySem.W.keepIn K (.ref f21) = true)
    (a22 : PySem.W.nsIn K mainGlobals "_law_map_is_key" = some (some (.ref f22))) (l22 : K.lookup f22 = some ⟨oc22, od22, .func (PySem.W.fnOf "_law_map_is_key" "_law_map_is_key" (defArgs (topS 49)) (defBody (topS 49)) (defScope (topS 49)) .none kV22 dc22 pm22 an22 cd22 ct22), sl22⟩) (c22 : PySem.W.codeIn K cd22 "_law_map_is_key" = true) (k22 : PySem.W.keepIn K (.ref f22) = true)
    (a23 : PySem.W.nsIn K mainGlobals "_law_map_is_value" = some (some (.ref f23))) (l23 : K.lookup f23 = some ⟨oc23, od23, .func (PySem.W.fnOf "_law_map_is_value" "_law_map_is_value" (defArgs (topS 50)) (defBody (topS 50)) (defScope (topS 50)) .none kV23 dc23 pm23 an23 cd23 ct23), sl23⟩) (c23 : PySem.W.codeIn K cd23 "_law_map_is_value" = true) (k23 : PySem.W.keepIn K (.ref f23) = true)
    (a24 : PySem.W.nsIn K mainGlobals "_law_map_number" = some (some (.ref f24))) (l24 : K.lookup f24 = some ⟨oc24, od24, .func (PySem.W.fnOf "_law_map_number" "_law_map_number" (defArgs (topS 51)) (defBody (topS 51)) (defScope (topS 51)) .none kV24 dc24 pm24 an24 cd24 ct24), sl24⟩) (c24 : PySem.W.codeIn K cd24 "_law_map_number" = true) (k24 : PySem.W.keepIn K (.ref f24) = true)
    (a25 : PySem.W.nsIn K mainGlobals "_law_map_sheet" = some (some (.ref f25))) (l25 : K.lookup f25 = some ⟨oc25, od25, .func (PySem.W.fnOf "_law_map_sheet" "_law_map_sheet" (defArgs (topS 52)) (defBody (topS 52)) (defScope (topS 52)) .none kV25 dc25 pm25 an25 cd25 ct25), sl25⟩) (c25 : PySem.W.codeIn K cd25 "_law_map_sheet" = true) (k25 : PySem.W.keepIn K (.ref f25) = true)
    (a26 : PySem.W.nsIn K mainGlobals "_law_map_key_drawn" = some (some (.ref f26))) (l26 : K.lookup f26 = some ⟨oc26, od26, .func (PySem.W.fnOf "_law_map_key_drawn" "_law_map_key_drawn" (defArgs (topS 53)) (defBody (topS 53)) (defScope (topS 53)) .none kV26 dc26 pm26 an26 cd26 ct26), sl26⟩) (c26 : PySem.W.codeIn K cd26 "_law_map_key_drawn" = true) (k26 : PySem.W.keepIn K (.ref f26) = true)
    (a27 : PySem.W.nsIn K mainGlobals "_law_map_value_drawn" = some (some (.ref f27))) (l27 : K.lookup f27 = some ⟨oc27, od27, .func (PySem.W.fnOf "_law_map_value_drawn" "_law_map_value_drawn" (defArgs (topS 54)) (defBody (topS 54)) (defScope (topS 54)) .none kV27 dc27 pm27 an27 cd27 ct27), sl27⟩) (c27 : PySem.W.codeIn K cd27 "_law_map_value_drawn" = true) (k27 : PySem.W.keepIn K (.ref f27) = true)
    (a28 : PySem.W.nsIn K mainGlobals "_law_sheet" = some (some (.ref f28))) (l28 : K.lookup f28 = some ⟨oc28, od28, .func (PySem.W.fnOf "_law_sheet" "_law_sheet" (defArgs (topS 55)) (defBody (topS 55)) (defScope (topS 55)) .none kV28 dc28 pm28 an28 cd28 ct28), sl28⟩) (c28 : PySem.W.codeIn K cd28 "_law_sheet" = true) (k28 : PySem.W.keepIn K (.ref f28) = true)
    (a29 : PySem.W.nsIn K mainGlobals "_law_text" = some (some (.ref f29))) (l29 : K.lookup f29 = some ⟨oc29, od29, .func (PySem.W.fnOf "_law_text" "_law_text" (defArgs (topS 56)) (defBody (topS 56)) (defScope (topS 56)) .none kV29 dc29 pm29 an29 cd29 ct29), sl29⟩) (c29 : PySem.W.codeIn K cd29 "_law_text" = true) (k29 : PySem.W.keepIn K (.ref f29) = true)
    (a30 : PySem.W.nsIn K mainGlobals "_law_read" = some (some (.ref f30))) (l30 : K.lookup f30 = some ⟨oc30, od30, .func (PySem.W.fnOf "_law_read" "_law_read" (defArgs (topS 57)) (defBody (topS 57)) (defScope (topS 57)) .none kV30 dc30 pm30 an30 cd30 ct30), sl30⟩) (c30 : PySem.W.codeIn K cd30 "_law_read" = true) (k30 : PySem.W.keepIn K (.ref f30) = true)
    (a31 : PySem.W.nsIn K mainGlobals "_law_is_specified" = some (some (.ref f31))) (l31 : K.lookup f31 = some ⟨oc31, od31, .func (PySem.W.fnOf "_law_is_specified" "_law_is_specified" (defArgs (topS 58)) (defBody (topS 58)) (defScope (topS 58)) .none kV31 dc31 pm31 an31 cd31 ct31), sl31⟩) (c31 : PySem.W.codeIn K cd31 "_law_is_specified" = true) (k31 : PySem.W.keepIn K (.ref f31) = true)
    (a32 : PySem.W.nsIn K mainGlobals "_law_near" = some (some (.ref f32))) (l32 : K.lookup f32 = some ⟨oc32, od32, .func (PySem.W.fnOf "_law_near" "_law_near" (defArgs (topS 59)) (defBody (topS 59)) (defScope (topS 59)) .none kV32 dc32 pm32 an32 cd32 ct32), sl32⟩) (c32 : PySem.W.codeIn K cd32 "_law_near" = true) (k32 : PySem.W.keepIn K (.ref f32) = true)
    (a33 : PySem.W.nsIn K mainGlobals "_law_right" = some (some (.ref f33))) (l33 : K.lookup f33 = some ⟨oc33, od33, .func (PySem.W.fnOf "_law_right" "_law_right" (defArgs (topS 60)) (defBody (topS 60)) (defScope (topS 60)) .none kV33 dc33 pm33 an33 cd33 ct33), sl33⟩) (c33 : PySem.W.codeIn K cd33 "_law_right" = true) (k33 : PySem.W.keepIn K (.ref f33) = true)
    (a34 : PySem.W.nsIn K mainGlobals "law" = some (some (.ref f34))) (l34 : K.lookup f34 = some ⟨oc34, od34, .func (PySem.W.fnOf "law" "law" (defArgs (topS 61)) (defBody (topS 61)) (defScope (topS 61)) .none kV34 dc34 pm34 an34 cd34 ct34), sl34⟩) (c34 : PySem.W.codeIn K cd34 "law" = true) (k34 : PySem.W.keepIn K (.ref f34) = true)
    (z35 : PySem.W.nsIn K mainGlobals "len" = some none)
    (z36 : PySem.W.nsIn K mainGlobals "all" = some none)
    (z37 : PySem.W.nsIn K mainGlobals "any" = some none)
    (z38 : PySem.W.nsIn K mainGlobals "isinstance" = some none)
    (z39 : PySem.W.nsIn K mainGlobals "sum" = some none)
    (z40 : PySem.W.nsIn K mainGlobals "abs" = some none)
    (z41 : PySem.W.nsIn K mainGlobals "max" = some none)
    (z42 : PySem.W.nsIn K mainGlobals "min" = some none)
    (z43 : PySem.W.nsIn K mainGlobals "repr" = some none)
    (z44 : PySem.W.nsIn K mainGlobals "sorted" = some none)
    (z45 : PySem.W.nsIn K mainGlobals "int" = some none)
    (z46 : PySem.W.nsIn K mainGlobals "set" = some none)
    (z47 : PySem.W.nsIn K mainGlobals "bool" = some none)
    (z48 : PySem.W.nsIn K mainGlobals "str" = some none)
    (z49 : PySem.W.nsIn K mainGlobals "tuple" = some none)
    (z50 : PySem.W.nsIn K mainGlobals "list" = some none)
    (z51 : PySem.W.nsIn K mainGlobals "range" = some none)
    (z52 : PySem.W.nsIn K mainGlobals "zip" = some none)
    (z53 : PySem.W.nsIn K mainGlobals "FEED" = some (some (.str x53 t53))) (e53 : x53 = ⟨([10] : List Nat).toArray⟩)
    (z54 : PySem.W.nsIn K mainGlobals "MINUS" = some (some (.str x54 t54))) (e54 : x54 = ⟨([45] : List Nat).toArray⟩)
    (z55 : PySem.W.nsIn K mainGlobals "FIGURES" = some (some (.str x55 t55))) (e55 : x55 = ⟨([48, 49, 50, 51, 52, 53, 54, 55, 56, 57] : List Nat).toArray⟩)
    (z56 : PySem.W.nsIn K mainGlobals "FIRST_SIGN" = some (some (.str x56 t56))) (e56 : x56 = ⟨([32] : List Nat).toArray⟩)
    (z57 : PySem.W.nsIn K mainGlobals "FIRST_KEY_SIGN" = some (some (.str x57 t57))) (e57 : x57 = ⟨([33] : List Nat).toArray⟩)
    (z58 : PySem.W.nsIn K mainGlobals "LOW_SIGNS" = some (some (.str x58 t58))) (e58 : x58 = ⟨([32, 33, 34, 35, 36] : List Nat).toArray⟩)
    (z59 : PySem.W.nsIn K mainGlobals "HIGH_SIGNS" = some (some (.str x59 t59))) (e59 : x59 = ⟨([38, 39, 40, 41, 42, 43, 44, 45, 46, 47, 48, 49, 50, 51, 52, 53, 54, 55, 56, 57, 58, 59, 60, 61, 62, 63, 64, 65, 66, 67, 68, 69, 70, 71, 72, 73, 74, 75, 76, 77, 78, 79, 80, 81, 82, 83, 84, 85, 86, 87, 88, 89, 90, 91, 92, 93, 94, 95, 96, 97, 98, 99, 100, 101, 102, 103, 104, 105, 106, 107, 108, 109, 110, 111, 112, 113, 114, 115, 116, 117, 118, 119, 120, 121, 122, 123, 124, 125, 126] : List Nat).toArray⟩)
    (z60 : PySem.W.nsIn K mainGlobals "MOST_PAGE_SIGNS" = some (some (.int 113 t60)))
    (z61 : PySem.W.nsIn K mainGlobals "MOST_KEY_SIGNS" = some (some (.int 13 t61)))
    (z62 : PySem.W.nsIn K mainGlobals "MOST_VALUE_SIGNS" = some (some (.int 13 t62)))
    (z63 : PySem.W.nsIn K mainGlobals "MOST_FIGURES" = some (some (.int 12 t63)))
    (z64 : PySem.W.nsIn K mainGlobals "LEAF" = some (some (.str x64 t64))) (e64 : x64 = ⟨([108, 101, 97, 102] : List Nat).toArray⟩)
    (z65 : PySem.W.nsIn K mainGlobals "FORK" = some (some (.str x65 t65))) (e65 : x65 = ⟨([102, 111, 114, 107] : List Nat).toArray⟩)
    (z66 : PySem.W.nsIn K mainGlobals "LEAF_WORD" = some (some (.str x66 t66))) (e66 : x66 = ⟨([108] : List Nat).toArray⟩)
    (z67 : PySem.W.nsIn K mainGlobals "FORK_WORD" = some (some (.str x67 t67))) (e67 : x67 = ⟨([102] : List Nat).toArray⟩)
    (z68 : PySem.W.nsIn K mainGlobals "NEW" = some (some (.str x68 t68))) (e68 : x68 = ⟨([110, 101, 119] : List Nat).toArray⟩)
    (z69 : PySem.W.nsIn K mainGlobals "PAIR" = some (some (.int 2 t69)))
    (z70 : PySem.W.nsIn K mainGlobals "FEWEST" = some (some (.int 2 t70)))
    (z71 : PySem.W.nsIn K mainGlobals "MOST" = some (some (.int 4 t71)))
    (z72 : PySem.W.nsIn K mainGlobals "MOST_PLACE" = some (some (.int 999999999999 t72))) :
    ∃ fd : FuncData, (∀ (s : Shared) (v : Value), BindsTo s fd ⟨[v], []⟩ [("script", v)]) ∧ ∀ base : Heap, K.In base → base.Ns mainGlobals mg → FnG l.prog w K mg base CX0 8 fa fd ["script"] (SpD K F_law) := by
  have e : fa = f34 := by
    have z := Option.some.inj (hfa.symm.trans (PySem.W.mg_of X G a34))
    injection z
  rw [e]
  let T : Tx K mg := {
  a_is_whole := f1
  d_is_whole := PySem.W.fnOf "is_whole" "is_whole" (defArgs (topS 12)) (defBody (topS 12)) (defScope (topS 12)) .none kV1 dc1 pm1 an1 cd1 ct1
  F_is_whole := fun_mk (st := topS 12) l1 c1 k1
  m_is_whole := PySem.W.mg_of X G a1
  b_is_whole := (fun_mk (st := topS 12) l1 c1 k1).binds (ps := ["value"]) fun _ _ _ _ _ _ us hl => match us, hl with | [_], _ => rfl
  a_is_integer := f2
  d_is_integer := PySem.W.fnOf "is_integer" "is_integer" (defArgs (topS 13)) (defBody (topS 13)) (defScope (topS 13)) .none kV2 dc2 pm2 an2 cd2 ct2
  F_is_integer := fun_mk (st := topS 13) l2 c2 k2
  m_is_integer := PySem.W.mg_of X G a2
  b_is_integer := (fun_mk (st := topS 13) l2 c2 k2).binds (ps := ["value", "low", "high"]) fun _ _ _ _ _ _ us hl => match us, hl with | [_, _, _], _ => rfl
  a_is_tuple := f3
  d_is_tuple := PySem.W.fnOf "is_tuple" "is_tuple" (defArgs (topS 14)) (defBody (topS 14)) (defScope (topS 14)) .none kV3 dc3 pm3 an3 cd3 ct3
  F_is_tuple := fun_mk (st := topS 14) l3 c3 k3
  m_is_tuple := PySem.W.mg_of X G a3
  b_is_tuple := (fun_mk (st := topS 14) l3 c3 k3).binds (ps := ["value", "low", "high"]) fun _ _ _ _ _ _ us hl => match us, hl with | [_, _, _], _ => rfl
  a_is_string := f4
  d_is_string := PySem.W.fnOf "is_string" "is_string" (defArgs (topS 15)) (defBody (topS 15)) (defScope (topS 15)) .none kV4 dc4 pm4 an4 cd4 ct4
  F_is_string := fun_mk (st := topS 15) l4 c4 k4
  m_is_string := PySem.W.mg_of X G a4
  b_is_string := (fun_mk (st := topS 15) l4 c4 k4).binds (ps := ["value", "some"]) fun _ _ _ _ _ _ us hl => match us, hl with | [_, _], _ => rfl
  a_are_signs := f5
  d_are_signs := PySem.W.fnOf "are_signs" "are_signs" (defArgs (topS 16)) (defBody (topS 16)) (defScope (topS 16)) .none kV5 dc5 pm5 an5 cd5 ct5
  F_are_signs := fun_mk (st := topS 16) l5 c5 k5
  m_are_signs := PySem.W.mg_of X G a5
  b_are_signs := (fun_mk (st := topS 16) l5 c5 k5).binds (ps := ["value", "low", "high", "first"]) fun _ _ _ _ _ _ us hl => match us, hl with | [_, _, _, _], _ => rfl
  a_is_page_text := f6
  d_is_page_text := PySem.W.fnOf "is_page_text" "is_page_text" (defArgs (topS 17)) (defBody (topS 17)) (defScope (topS 17)) .none kV6 dc6 pm6 an6 cd6 ct6
  F_is_page_text := fun_mk (st := topS 17) l6 c6 k6
  m_is_page_text := PySem.W.mg_of X G a6
  b_is_page_text := (fun_mk (st := topS 17) l6 c6 k6).binds (ps := ["value"]) fun _ _ _ _ _ _ us hl => match us, hl with | [_], _ => rfl
  a_is_key := f7
  d_is_key := PySem.W.fnOf "is_key" "is_key" (defArgs (topS 18)) (defBody (topS 18)) (defScope (topS 18)) .none kV7 dc7 pm7 an7 cd7 ct7
  F_is_key := fun_mk (st := topS 18) l7 c7 k7
  m_is_key := PySem.W.mg_of X G a7
  b_is_key := (fun_mk (st := topS 18) l7 c7 k7).binds (ps := ["value"]) fun _ _ _ _ _ _ us hl => match us, hl with | [_], _ => rfl
  a_is_value := f8
  d_is_value := PySem.W.fnOf "is_value" "is_value" (defArgs (topS 19)) (defBody (topS 19)) (defScope (topS 19)) .none kV8 dc8 pm8 an8 cd8 ct8
  F_is_value := fun_mk (st := topS 19) l8 c8 k8
  m_is_value := PySem.W.mg_of X G a8
  b_is_value := (fun_mk (st := topS 19) l8 c8 k8).binds (ps := ["value"]) fun _ _ _ _ _ _ us hl => match us, hl with | [_], _ => rfl
  a_long_whole_in := f9
  d_long_whole_in := PySem.W.fnOf "long_whole_in" "long_whole_in" (defArgs (topS 20)) (defBody (topS 20)) (defScope (topS 20)) .none kV9 dc9 pm9 an9 cd9 ct9
  F_long_whole_in := fun_mk (st := topS 20) l9 c9 k9
  m_long_whole_in := PySem.W.mg_of X G a9
  b_long_whole_in := (fun_mk (st := topS 20) l9 c9 k9).binds (ps := ["word"]) fun _ _ _ _ _ _ us hl => match us, hl with | [_], _ => rfl
  a_whole_in := f10
  d_whole_in := PySem.W.fnOf "whole_in" "whole_in" (defArgs (topS 21)) (defBody (topS 21)) (defScope (topS 21)) .none kV10 dc10 pm10 an10 cd10 ct10
  F_whole_in := fun_mk (st := topS 21) l10 c10 k10
  m_whole_in := PySem.W.mg_of X G a10
  b_whole_in := (fun_mk (st := topS 21) l10 c10 k10).binds (ps := ["word"]) fun _ _ _ _ _ _ us hl => match us, hl with | [_], _ => rfl
  a_are_ascending := f11
  d_are_ascending := PySem.W.fnOf "are_ascending" "are_ascending" (defArgs (topS 37)) (defBody (topS 37)) (defScope (topS 37)) .none kV11 dc11 pm11 an11 cd11 ct11
  F_are_ascending := fun_mk (st := topS 37) l11 c11 k11
  m_are_ascending := PySem.W.mg_of X G a11
  b_are_ascending := (fun_mk (st := topS 37) l11 c11 k11).binds (ps := ["keys"]) fun _ _ _ _ _ _ us hl => match us, hl with | [_], _ => rfl
  a_is_child := f12
  d_is_child := PySem.W.fnOf "is_child" "is_child" (defArgs (topS 38)) (defBody (topS 38)) (defScope (topS 38)) .none kV12 dc12 pm12 an12 cd12 ct12
  F_is_child := fun_mk (st := topS 38) l12 c12 k12
  m_is_child := PySem.W.mg_of X G a12
  b_is_child := (fun_mk (st := topS 38) l12 c12 k12).binds (ps := ["value"]) fun _ _ _ _ _ _ us hl => match us, hl with | [_], _ => rfl
  a_is_sheet := f13
  d_is_sheet := PySem.W.fnOf "is_sheet" "is_sheet" (defArgs (topS 39)) (defBody (topS 39)) (defScope (topS 39)) .none kV13 dc13 pm13 an13 cd13 ct13
  F_is_sheet := fun_mk (st := topS 39) l13 c13 k13
  m_is_sheet := PySem.W.mg_of X G a13
  b_is_sheet := (fun_mk (st := topS 39) l13 c13 k13).binds (ps := ["value"]) fun _ _ _ _ _ _ us hl => match us, hl with | [_], _ => rfl
  a_sheet_of := f14
  d_sheet_of := PySem.W.fnOf "sheet_of" "sheet_of" (defArgs (topS 40)) (defBody (topS 40)) (defScope (topS 40)) .none kV14 dc14 pm14 an14 cd14 ct14
  F_sheet_of := fun_mk (st := topS 40) l14 c14 k14
  m_sheet_of := PySem.W.mg_of X G a14
  b_sheet_of := (fun_mk (st := topS 40) l14 c14 k14).binds (ps := ["text"]) fun _ _ _ _ _ _ us hl => match us, hl with | [_], _ => rfl
  a_sheet_in := f15
  d_sheet_in := PySem.W.fnOf "sheet_in" "sheet_in" (defArgs (topS 41)) (defBody (topS 41)) (defScope (topS 41)) .none kV15 dc15 pm15 an15 cd15 ct15
  F_sheet_in := fun_mk (st := topS 41) l15 c15 k15
  m_sheet_in := PySem.W.mg_of X G a15
  b_sheet_in := (fun_mk (st := topS 41) l15 c15 k15).binds (ps := ["text"]) fun _ _ _ _ _ _ us hl => match us, hl with | [_], _ => rfl
  a_sheet_text := f16
  d_sheet_text := PySem.W.fnOf "sheet_text" "sheet_text" (defArgs (topS 42)) (defBody (topS 42)) (defScope (topS 42)) .none kV16 dc16 pm16 an16 cd16 ct16
  F_sheet_text := fun_mk (st := topS 42) l16 c16 k16
  m_sheet_text := PySem.W.mg_of X G a16
  b_sheet_text := (fun_mk (st := topS 42) l16 c16 k16).binds (ps := ["sheet", "places"]) fun _ _ _ _ _ _ us hl => match us, hl with | [_, _], _ => rfl
  a_written := f17
  d_written := PySem.W.fnOf "written" "written" (defArgs (topS 43)) (defBody (topS 43)) (defScope (topS 43)) .none kV17 dc17 pm17 an17 cd17 ct17
  F_written := fun_mk (st := topS 43) l17 c17 k17
  m_written := PySem.W.mg_of X G a17
  b_written := (fun_mk (st := topS 43) l17 c17 k17).binds (ps := ["sheet", "places"]) fun _ _ _ _ _ _ us hl => match us, hl with | [_, _], _ => rfl
  a__law_pot := f18
  d__law_pot := PySem.W.fnOf "_law_pot" "_law_pot" (defArgs (topS 45)) (defBody (topS 45)) (defScope (topS 45)) .none kV18 dc18 pm18 an18 cd18 ct18
  F__law_pot := fun_mk (st := topS 45) l18 c18 k18
  m__law_pot := PySem.W.mg_of X G a18
  b__law_pot := (fun_mk (st := topS 45) l18 c18 k18).binds (ps := ["script", "place"]) fun _ _ _ _ _ _ us hl => match us, hl with | [_, _], _ => rfl
  a__law_take := f19
  d__law_take := PySem.W.fnOf "_law_take" "_law_take" (defArgs (topS 46)) (defBody (topS 46)) (defScope (topS 46)) .none kV19 dc19 pm19 an19 cd19 ct19
  F__law_take := fun_mk (st := topS 46) l19 c19 k19
  m__law_take := PySem.W.mg_of X G a19
  b__law_take := (fun_mk (st := topS 46) l19 c19 k19).binds (ps := ["pot", "upto"]) fun _ _ _ _ _ _ us hl => match us, hl with | [_, _], _ => rfl
  a__law_of := f20
  d__law_of := PySem.W.fnOf "_law_of" "_law_of" (defArgs (topS 47)) (defBody (topS 47)) (defScope (topS 47)) .none kV20 dc20 pm20 an20 cd20 ct20
  F__law_of := fun_mk (st := topS 47) l20 c20 k20
  m__law_of := PySem.W.mg_of X G a20
  b__law_of := (fun_mk (st := topS 47) l20 c20 k20).binds (ps := ["pot", "some"]) fun _ _ _ _ _ _ us hl => match us, hl with | [_, _], _ => rfl
  a__law_cells := f21
  d__law_cells := PySem.W.fnOf "_law_cells" "_law_cells" (defArgs (topS 48)) (defBody (topS 48)) (defScope (topS 48)) .none kV21 dc21 pm21 an21 cd21 ct21
  F__law_cells := fun_mk (st := topS 48) l21 c21 k21
  m__law_cells := PySem.W.mg_of X G a21
  b__law_cells := (fun_mk (st := topS 48) l21 c21 k21).binds (ps := ["script", "most"]) fun _ _ _ _ _ _ us hl => match us, hl with | [_, _], _ => rfl
  a__law_map_is_key := f22
  d__law_map_is_key := PySem.W.fnOf "_law_map_is_key" "_law_map_is_key" (defArgs (topS 49)) (defBody (topS 49)) (defScope (topS 49)) .none kV22 dc22 pm22 an22 cd22 ct22
  F__law_map_is_key := fun_mk (st := topS 49) l22 c22 k22
  m__law_map_is_key := PySem.W.mg_of X G a22
  b__law_map_is_key := (fun_mk (st := topS 49) l22 c22 k22).binds (ps := ["value"]) fun _ _ _ _ _ _ us hl => match us, hl with | [_], _ => rfl
  a__law_map_is_value := f23
  d__law_map_is_value := PySem.W.fnOf "_law_map_is_value" "_law_map_is_value" (defArgs (topS 50)) (defBody (topS 50)) (defScope (topS 50)) .none kV23 dc23 pm23 an23 cd23 ct23
  F__law_map_is_value := fun_mk (st := topS 50) l23 c23 k23
  m__law_map_is_value := PySem.W.mg_of X G a23
  b__law_map_is_value := (fun_mk (st := topS 50) l23 c23 k23).binds (ps := ["value"]) fun _ _ _ _ _ _ us hl => match us, hl with | [_], _ => rfl
  a__law_map_number := f24
  d__law_map_number := PySem.W.fnOf "_law_map_number" "_law_map_number" (defArgs (topS 51)) (defBody (topS 51)) (defScope (topS 51)) .none kV24 dc24 pm24 an24 cd24 ct24
  F__law_map_number := fun_mk (st := topS 51) l24 c24 k24
  m__law_map_number := PySem.W.mg_of X G a24
  b__law_map_number := (fun_mk (st := topS 51) l24 c24 k24).binds (ps := ["word"]) fun _ _ _ _ _ _ us hl => match us, hl with | [_], _ => rfl
  a__law_map_sheet := f25
  d__law_map_sheet := PySem.W.fnOf "_law_map_sheet" "_law_map_sheet" (defArgs (topS 52)) (defBody (topS 52)) (defScope (topS 52)) .none kV25 dc25 pm25 an25 cd25 ct25
  F__law_map_sheet := fun_mk (st := topS 52) l25 c25 k25
  m__law_map_sheet := PySem.W.mg_of X G a25
  b__law_map_sheet := (fun_mk (st := topS 52) l25 c25 k25).binds (ps := ["text"]) fun _ _ _ _ _ _ us hl => match us, hl with | [_], _ => rfl
  a__law_map_key_drawn := f26
  d__law_map_key_drawn := PySem.W.fnOf "_law_map_key_drawn" "_law_map_key_drawn" (defArgs (topS 53)) (defBody (topS 53)) (defScope (topS 53)) .none kV26 dc26 pm26 an26 cd26 ct26
  F__law_map_key_drawn := fun_mk (st := topS 53) l26 c26 k26
  m__law_map_key_drawn := PySem.W.mg_of X G a26
  b__law_map_key_drawn := (fun_mk (st := topS 53) l26 c26 k26).binds (ps := ["pot"]) fun _ _ _ _ _ _ us hl => match us, hl with | [_], _ => rfl
  a__law_map_value_drawn := f27
  d__law_map_value_drawn := PySem.W.fnOf "_law_map_value_drawn" "_law_map_value_drawn" (defArgs (topS 54)) (defBody (topS 54)) (defScope (topS 54)) .none kV27 dc27 pm27 an27 cd27 ct27
  F__law_map_value_drawn := fun_mk (st := topS 54) l27 c27 k27
  m__law_map_value_drawn := PySem.W.mg_of X G a27
  b__law_map_value_drawn := (fun_mk (st := topS 54) l27 c27 k27).binds (ps := ["pot"]) fun _ _ _ _ _ _ us hl => match us, hl with | [_], _ => rfl
  a__law_sheet := f28
  d__law_sheet := PySem.W.fnOf "_law_sheet" "_law_sheet" (defArgs (topS 55)) (defBody (topS 55)) (defScope (topS 55)) .none kV28 dc28 pm28 an28 cd28 ct28
  F__law_sheet := fun_mk (st := topS 55) l28 c28 k28
  m__law_sheet := PySem.W.mg_of X G a28
  b__law_sheet := (fun_mk (st := topS 55) l28 c28 k28).binds (ps := ["pot"]) fun _ _ _ _ _ _ us hl => match us, hl with | [_], _ => rfl
  a__law_text := f29
  d__law_text := PySem.W.fnOf "_law_text" "_law_text" (defArgs (topS 56)) (defBody (topS 56)) (defScope (topS 56)) .none kV29 dc29 pm29 an29 cd29 ct29
  F__law_text := fun_mk (st := topS 56) l29 c29 k29
  m__law_text := PySem.W.mg_of X G a29
  b__law_text := (fun_mk (st := topS 56) l29 c29 k29).binds (ps := ["sheet", "places"]) fun _ _ _ _ _ _ us hl => match us, hl with | [_, _], _ => rfl
  a__law_read := f30
  d__law_read := PySem.W.fnOf "_law_read" "_law_read" (defArgs (topS 57)) (defBody (topS 57)) (defScope (topS 57)) .none kV30 dc30 pm30 an30 cd30 ct30
  F__law_read := fun_mk (st := topS 57) l30 c30 k30
  m__law_read := PySem.W.mg_of X G a30
  b__law_read := (fun_mk (st := topS 57) l30 c30 k30).binds (ps := ["text"]) fun _ _ _ _ _ _ us hl => match us, hl with | [_], _ => rfl
  a__law_is_specified := f31
  d__law_is_specified := PySem.W.fnOf "_law_is_specified" "_law_is_specified" (defArgs (topS 58)) (defBody (topS 58)) (defScope (topS 58)) .none kV31 dc31 pm31 an31 cd31 ct31
  F__law_is_specified := fun_mk (st := topS 58) l31 c31 k31
  m__law_is_specified := PySem.W.mg_of X G a31
  b__law_is_specified := (fun_mk (st := topS 58) l31 c31 k31).binds (ps := ["text"]) fun _ _ _ _ _ _ us hl => match us, hl with | [_], _ => rfl
  a__law_near := f32
  d__law_near := PySem.W.fnOf "_law_near" "_law_near" (defArgs (topS 59)) (defBody (topS 59)) (defScope (topS 59)) .none kV32 dc32 pm32 an32 cd32 ct32
  F__law_near := fun_mk (st := topS 59) l32 c32 k32
  m__law_near := PySem.W.mg_of X G a32
  b__law_near := (fun_mk (st := topS 59) l32 c32 k32).binds (ps := ["pot", "text"]) fun _ _ _ _ _ _ us hl => match us, hl with | [_, _], _ => rfl
  a__law_right := f33
  d__law_right := PySem.W.fnOf "_law_right" "_law_right" (defArgs (topS 60)) (defBody (topS 60)) (defScope (topS 60)) .none kV33 dc33 pm33 an33 cd33 ct33
  F__law_right := fun_mk (st := topS 60) l33 c33 k33
  m__law_right := PySem.W.mg_of X G a33
  b__law_right := (fun_mk (st := topS 60) l33 c33 k33).binds (ps := ["pot"]) fun _ _ _ _ _ _ us hl => match us, hl with | [_], _ => rfl
  a_law := f34
  d_law := PySem.W.fnOf "law" "law" (defArgs (topS 61)) (defBody (topS 61)) (defScope (topS 61)) .none kV34 dc34 pm34 an34 cd34 ct34
  F_law := fun_mk (st := topS 61) l34 c34 k34
  m_law := PySem.W.mg_of X G a34
  b_law := (fun_mk (st := topS 61) l34 c34 k34).binds (ps := ["script"]) fun _ _ _ _ _ _ us hl => match us, hl with | [_], _ => rfl
  m_len := PySem.W.mg_none_of X G z35
  m_all := PySem.W.mg_none_of X G z36
  m_any := PySem.W.mg_none_of X G z37
  m_isinstance := PySem.W.mg_none_of X G z38
  m_sum := PySem.W.mg_none_of X G z39
  m_abs := PySem.W.mg_none_of X G z40
  m_max := PySem.W.mg_none_of X G z41
  m_min := PySem.W.mg_none_of X G z42
  m_repr := PySem.W.mg_none_of X G z43
  m_sorted := PySem.W.mg_none_of X G z44
  m_int := PySem.W.mg_none_of X G z45
  m_set := PySem.W.mg_none_of X G z46
  m_bool := PySem.W.mg_none_of X G z47
  m_str := PySem.W.mg_none_of X G z48
  m_tuple := PySem.W.mg_none_of X G z49
  m_list := PySem.W.mg_none_of X G z50
  m_range := PySem.W.mg_none_of X G z51
  m_zip := PySem.W.mg_none_of X G z52
  c_FEED := ⟨t53, by rw [← e53]; exact PySem.W.mg_of X G z53⟩
  c_MINUS := ⟨t54, by rw [← e54]; exact PySem.W.mg_of X G z54⟩
  c_FIGURES := ⟨t55, by rw [← e55]; exact PySem.W.mg_of X G z55⟩
  c_FIRST_SIGN := ⟨t56, by rw [← e56]; exact PySem.W.mg_of X G z56⟩
  c_FIRST_KEY_SIGN := ⟨t57, by rw [← e57]; exact PySem.W.mg_of X G z57⟩
  c_LOW_SIGNS := ⟨t58, by rw [← e58]; exact PySem.W.mg_of X G z58⟩
  c_HIGH_SIGNS := ⟨t59, by rw [← e59]; exact PySem.W.mg_of X G z59⟩
  c_MOST_PAGE_SIGNS := ⟨t60, PySem.W.mg_of X G z60⟩
  c_MOST_KEY_SIGNS := ⟨t61, PySem.W.mg_of X G z61⟩
  c_MOST_VALUE_SIGNS := ⟨t62, PySem.W.mg_of X G z62⟩
  c_MOST_FIGURES := ⟨t63, PySem.W.mg_of X G z63⟩
  c_LEAF := ⟨t64, by rw [← e64]; exact PySem.W.mg_of X G z64⟩
  c_FORK := ⟨t65, by rw [← e65]; exact PySem.W.mg_of X G z65⟩
  c_LEAF_WORD := ⟨t66, by rw [← e66]; exact PySem.W.mg_of X G z66⟩
  c_FORK_WORD := ⟨t67, by rw [← e67]; exact PySem.W.mg_of X G z67⟩
  c_NEW := ⟨t68, by rw [← e68]; exact PySem.W.mg_of X G z68⟩
  c_PAIR := ⟨t69, PySem.W.mg_of X G z69⟩
  c_FEWEST := ⟨t70, PySem.W.mg_of X G z70⟩
  c_MOST := ⟨t71, PySem.W.mg_of X G z71⟩
  c_MOST_PLACE := ⟨t72, PySem.W.mg_of X G z72⟩
  bk_written := fun s us _ hl => match us, hl with | [_, _], _ => .of_eq rfl
  bk_sheet_in := fun s us _ hl => match us, hl with | [_], _ => .of_eq rfl }
  exact ⟨T.d_law, fun s v => .of_eq rfl, fun base _ _ => ok_law T⟩
end K76
end W9
open PySem PySem.W PyProof.Rows
set_option maxHeartbeats 0 in
theorem PySem.Challenge.cw_wornyettold_k76_whole_sheets_and_page_te_holds : PySem.Challenge.rw_wornyettold_k76_whole_sheets_and_page_te.Holds := by
  w_on; o_law; k_head; (case hw => w_witness2)
  k_fill
  refine W9.walk_top (l := PySem.Challenge.rw_wornyettold_k76_whole_sheets_and_page_te) (n := 63) (k := 8) (x := "script") (F := fun w => W9.K76.F_law) rfl (by decide) rfl ⟨rfl, by decide, by decide⟩ (fun w h Y => PySem.W.kIn_of Y) ?F (fun w ns hl _ => .mk hl rfl)
  case F =>
    intro w mg fa h KX G hmg
    refine' W9.K76.all_mk KX G hmg ?a1 ?l1 ?c1 ?k1 ?a2 ?l2 ?c2 ?k2 ?a3 ?l3 ?c3 ?k3 ?a4 ?l4 ?c4 ?k4 ?a5 ?l5 ?c5 ?k5 ?a6 ?l6 ?c6 ?k6 ?a7 ?l7 ?c7 ?k7 ?a8 ?l8 ?c8 ?k8 ?a9 ?l9 ?c9 ?k9 ?a10 ?l10 ?c10 ?k10 ?a11 ?l11 ?c11 ?k11 ?a12 ?l12 ?c12 ?k12 ?a13 ?l13 ?c13 ?k13 ?a14 ?l14 ?c14 ?k14 ?a15 ?l15 ?c15 ?k15 ?a16 ?l16 ?c16 ?k16 ?a17 ?l17 ?c17 ?k17 ?a18 ?l18 ?c18 ?k18 ?a19 ?l19 ?c19 ?k19 ?a20 ?l20 ?c20 ?k20 ?a21 ?l21 ?c21 ?k21 ?a22 ?l22 ?c22 ?k22 ?a23 ?l23 ?c23 ?k23 ?a24 ?l24 ?c24 ?k24 ?a25 ?l25 ?c25 ?k25 ?a26 ?l26 ?c26 ?k26 ?a27 ?l27 ?c27 ?k27 ?a28 ?l28 ?c28 ?k28 ?a29 ?l29 ?c29 ?k29 ?a30 ?l30 ?c30 ?k30 ?a31 ?l31 ?c31 ?k31 ?a32 ?l32 ?c32 ?k32 ?a33 ?l33 ?c33 ?k33 ?a34 ?l34 ?c34 ?k34 ?z35 ?z36 ?z37 ?z38 ?z39 ?z40 ?z41 ?z42 ?z43 ?z44 ?z45 ?z46 ?z47 ?z48 ?z49 ?z50 ?z51 ?z52 ?z53 ?e53 ?z54 ?e54 ?z55 ?e55 ?z56 ?e56 ?z57 ?e57 ?z58 ?e58 ?z59 ?e59 ?z60 ?z61 ?z62 ?z63 ?z64 ?e64 ?z65 ?e65 ?z66 ?e66 ?z67 ?e67 ?z68 ?e68 ?z69 ?z70 ?z71 ?z72
    (case a1 => k_is)
    (case l1 => k_is)
    (case c1 => k_is)
    (case k1 => k_is)
    (case a2 => k_is)
    (case l2 => k_is)
    (case c2 => k_is)
    (case k2 => k_is)
    (case a3 => k_is)
    (case l3 => k_is)
    (case c3 => k_is)
    (case k3 => k_is)
    (case a4 => k_is)
    (case l4 => k_is)
    (case c4 => k_is)
    (case k4 => k_is)
    (case a5 => k_is)
    (case l5 => k_is)
    (case c5 => k_is)
    (case k5 => k_is)
    (case a6 => k_is)
    (case l6 => k_is)
    (case c6 => k_is)
    (case k6 => k_is)
    (case a7 => k_is)
    (case l7 => k_is)
    (case c7 => k_is)
    (case k7 => k_is)
    (case a8 => k_is)
    (case l8 => k_is)
    (case c8 => k_is)
    (case k8 => k_is)
    (case a9 => k_is)
    (case l9 => k_is)
    (case c9 => k_is)
    (case k9 => k_is)
    (case a10 => k_is)
    (case l10 => k_is)
    (case c10 => k_is)
    (case k10 => k_is)
    (case a11 => k_is)
    (case l11 => k_is)
    (case c11 => k_is)
    (case k11 => k_is)
    (case a12 => k_is)
    (case l12 => k_is)
    (case c12 => k_is)
    (case k12 => k_is)
    (case a13 => k_is)
    (case l13 => k_is)
    (case c13 => k_is)
    (case k13 => k_is)
    (case a14 => k_is)
    (case l14 => k_is)
    (case c14 => k_is)
    (case k14 => k_is)
    (case a15 => k_is)
    (case l15 => k_is)
    (case c15 => k_is)
    (case k15 => k_is)
    (case a16 => k_is)
    (case l16 => k_is)
    (case c16 => k_is)
    (case k16 => k_is)
    (case a17 => k_is)
    (case l17 => k_is)
    (case c17 => k_is)
    (case k17 => k_is)
    (case a18 => k_is)
    (case l18 => k_is)
    (case c18 => k_is)
    (case k18 => k_is)
    (case a19 => k_is)
    (case l19 => k_is)
    (case c19 => k_is)
    (case k19 => k_is)
    (case a20 => k_is)
    (case l20 => k_is)
    (case c20 => k_is)
    (case k20 => k_is)
    (case a21 => k_is)
    (case l21 => k_is)
    (case c21 => k_is)
    (case k21 => k_is)
    (case a22 => k_is)
    (case l22 => k_is)
    (case c22 => k_is)
    (case k22 => k_is)
    (case a23 => k_is)
    (case l23 => k_is)
    (case c23 => k_is)
    (case k23 => k_is)
    (case a24 => k_is)
    (case l24 => k_is)
    (case c24 => k_is)
    (case k24 => k_is)
    (case a25 => k_is)
    (case l25 => k_is)
    (case c25 => k_is)
    (case k25 => k_is)
    (case a26 => k_is)
    (case l26 => k_is)
    (case c26 => k_is)
    (case k26 => k_is)
    (case a27 => k_is)
    (case l27 => k_is)
    (case c27 => k_is)
    (case k27 => k_is)
    (case a28 => k_is)
    (case l28 => k_is)
    (case c28 => k_is)
    (case k28 => k_is)
    (case a29 => k_is)
    (case l29 => k_is)
    (case c29 => k_is)
    (case k29 => k_is)
    (case a30 => k_is)
    (case l30 => k_is)
    (case c30 => k_is)
    (case k30 => k_is)
    (case a31 => k_is)
    (case l31 => k_is)
    (case c31 => k_is)
    (case k31 => k_is)
    (case a32 => k_is)
    (case l32 => k_is)
    (case c32 => k_is)
    (case k32 => k_is)
    (case a33 => k_is)
    (case l33 => k_is)
    (case c33 => k_is)
    (case k33 => k_is)
    (case a34 => k_is)
    (case l34 => k_is)
    (case c34 => k_is)
    (case k34 => k_is)
    (case z35 => k_is)
    (case z36 => k_is)
    (case z37 => k_is)
    (case z38 => k_is)
    (case z39 => k_is)
    (case z40 => k_is)
    (case z41 => k_is)
    (case z42 => k_is)
    (case z43 => k_is)
    (case z44 => k_is)
    (case z45 => k_is)
    (case z46 => k_is)
    (case z47 => k_is)
    (case z48 => k_is)
    (case z49 => k_is)
    (case z50 => k_is)
    (case z51 => k_is)
    (case z52 => k_is)
    (case z53 => k_is)
    (case z54 => k_is)
    (case z55 => k_is)
    (case z56 => k_is)
    (case z57 => k_is)
    (case z58 => k_is)
    (case z59 => k_is)
    (case z60 => k_is)
    (case z61 => k_is)
    (case z62 => k_is)
    (case z63 => k_is)
    (case z64 => k_is)
    (case z65 => k_is)
    (case z66 => k_is)
    (case z67 => k_is)
    (case z68 => k_is)
    (case z69 => k_is)
    (case z70 => k_is)
    (case z71 => k_is)
    (case z72 => k_is)
    (case e53 => rfl)
    (case e54 => rfl)
    (case e55 => rfl)
    (case e56 => rfl)
    (case e57 => rfl)
    (case e58 => rfl)
    (case e59 => rfl)
    (case e64 => rfl)
    (case e65 => rfl)
    (case e66 => rfl)
    (case e67 => rfl)
    (case e68 => rfl)

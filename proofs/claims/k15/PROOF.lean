import PyProof.Rows.All
import Wide.All
import OpenK.AllK
import Wide.FinOn
import HandS.ForMost
import HandS.Flow
import HandS.Style
import HandS.Star
import HandS.Zip
import HandS.NoneIn
import HandS.Lambda
import HandS.ExcInit
import HandS.ExcField
import HandS.ExcIs
import HandS.ExcValue
import HandS.Slots
import HandS.EndBits
import HandS.Wide
import HandS.IsInst
import HandS.Codes
import HandS.Replace
import HandS.Conv
import PyProof.ListStr
import HandS.SetTxt0
import HandS.Set
import HandS.SetFor
import HandS.Strs
import HandS.More
import PyProof.ZipIter
import HandS.StrMore
import HandS.StrSplit
import KE.KDictZip
import PyProof.Rows.ZipGen
import HandS.Dict
import HandS.Text
import HandS.Deep
import KE.KExcSuper
import KE.KSuper
import HandS.Ends
import KE.KExcIs
import HandS.ListItems
import PyProof.DictUpdate
import HandS.SlotsOwn
import KE.KAssignIn
import HandS.MakeKw
import HandS.EndTab
import HandS.Defaults
import HandS.SortInts
import PyProof.WalkInts
import PySem.Challenge.RW_wornyettold_k15_sizes_faults_places_cell
import HandS.TupAny
import HandS.Small
import KE.RegKSuper
import KE.KExcLine
import KE.KStrOpen
set_option Elab.async false
set_option linter.all false
set_option maxRecDepth 100000
set_option maxHeartbeats 4000000
/-! A layer over HandS: values as plain data (PyData), objects that nobody changes apart from those that one owns. -/
namespace W9
open PySem PySem.Spec PyProof.Rows L2
/-! ### what a slot holds -/
inductive SD where
  | raw (v : V)
  | py (d : PyData)
  | ob (φ : V → Hp → Prop)
abbrev DE := List (Option SD)
/-- what is owned: an object as it stands; a list of data; a table of code objects of one name -/
inductive OV where
  | ho (o : HO)
  | dl (l : List PyData)
  | tab (q : Str)
  | sl (l : List SD)
  | ds (l : List (Key × SD))
  | ins (a C dx : Addr) (l : List (Option SD))
abbrev MS := List (Addr × OV)
def ad (m : MS) : List Addr := m.map (·.1)
def Ex (H H' : Hp) : Prop := ∀ a o, H a = some o → H' a = some o
theorem Ex.refl (H : Hp) : Ex H H := fun _ _ h => h
theorem Ex.trans {H H1 H2 : Hp} (a : Ex H H1) (b : Ex H1 H2) : Ex H H2 := fun x o h => b x o (a x o h)
theorem Ex.back {H H' : Hp} (e : Ex H H') {a : Addr} (h : H' a = none) : H a = none := by
  cases q : H a with
  | none => rfl
  | some o => rw [e a o q] at h; cases h
theorem Ex.new {H : Hp} {p : Addr} {o : HO} (h : H p = none) : Ex H (upd H p o) := fun a u e => by
  rw [upd_ne (ne_of_none e h)]
  exact e
theorem Ex.both {H H' : Hp} {p : Addr} {o : HO} (e : Ex H H') : Ex (L2.upd H p o) (L2.upd H' p o) := fun a u h => by
  by_cases q : a = p
  · subst q; rw [upd_same] at h ⊢; exact h
  · rw [upd_ne q] at h ⊢; exact e a u h
theorem ex_rd {H H' : Hp} {a : Addr} {u : HO} (e : Ex H H') (h : Rd H a u) : Rd H' a u := by
  rcases h with h | ⟨o, h⟩
  · exact Or.inl (e a _ h)
  · exact Or.inr ⟨o, e a _ h⟩
section
variable {K : PySem.W.Frag} {G G' H H' : Hp}
theorem ex_l {a : Addr} {xs : List V} (e : Ex H H') (h : SqL K H a xs) : SqL K H' a xs := by
  rcases h with h | h
  · exact Or.inl (ex_rd e h)
  · exact Or.inr h
theorem ex_t {a : Addr} {xs : List V} (e : Ex H H') (h : SqT K H a xs) : SqT K H' a xs := by
  rcases h with h | h
  · exact Or.inl (ex_rd e h)
  · exact Or.inr h
mutual
/-- plain data; its tuples stand as they were made -/
inductive Dp (K : PySem.W.Frag) (G : Hp) : V → PyData → Prop
  | non : Dp K G .non .none
  | bl (b : Bool) : Dp K G (.bl b) (.bool b)
  | int (i : Int) : Dp K G (.int i) (.int i)
  | str (x : Str) : Dp K G (.str x) (.str x)
  | lst {a : Addr} {xs : List V} {ds : List PyData} : SqL K G a xs → DpAll K G xs ds → Dp K G (.ref a) (.list ds)
  | tup {a : Addr} {xs : List V} {ds : List PyData} : G a = some (.tup xs) → DpAll K G xs ds → Dp K G (.ref a) (.tuple ds)
  | dct {a : Addr} {o : Obj} {kvs : List (Key × V)} {ps : List (PyData × PyData)} : G a = some (.frz o (.dK kvs)) → DpKv K G kvs ps → Dp K G (.ref a) (.dict ps)
inductive DpAll (K : PySem.W.Frag) (G : Hp) : List V → List PyData → Prop
  | nil : DpAll K G [] []
  | cons {v : V} {vs : List V} {d : PyData} {ds : List PyData} : Dp K G v d → DpAll K G vs ds → DpAll K G (v :: vs) (d :: ds)
/-- entries with numbers or texts as keys -/
inductive DpKv (K : PySem.W.Frag) (G : Hp) : List (Key × V) → List (PyData × PyData) → Prop
  | nil : DpKv K G [] []
  | consI {v : V} {d : PyData} {kvs : List (Key × V)} {ps : List (PyData × PyData)} (i : Int) : Dp K G v d → DpKv K G kvs ps → DpKv K G ((.inl i, v) :: kvs) ((.int i, d) :: ps)
  | consS {v : V} {d : PyData} {kvs : List (Key × V)} {ps : List (PyData × PyData)} (x : Str) : Dp K G v d → DpKv K G kvs ps → DpKv K G ((.inr x, v) :: kvs) ((.str x, d) :: ps)
end
mutual
theorem dp_l2 : ∀ {v : V} {d : PyData}, d.hasDict = false → Dp K G v d → L2.Dp K G v d
  | _, _, _, .non => .non
  | _, _, _, .bl b => .bl b
  | _, _, _, .int i => .int i
  | _, _, _, .str x => .str x
  | _, _, n, .lst h a => .lst h (dpa_l2 (by simpa only [PyData.hasDict] using n) a)
  | _, _, n, .tup h a => .tup (SqT.of h) (dpa_l2 (by simpa only [PyData.hasDict] using n) a)
  | _, _, n, .dct h a => by simp only [PyData.hasDict] at n; cases n
theorem dpa_l2 : ∀ {vs : List V} {ds : List PyData}, PyData.hasDictAll ds = false → DpAll K G vs ds → L2.DpAll K G vs ds
  | _, _, _, .nil => .nil
  | _, _, n, .cons h a => by
    simp only [PyData.hasDictAll, Bool.or_eq_false_iff] at n
    exact .cons (dp_l2 n.1 h) (dpa_l2 n.2 a)
end
theorem hd_shaped {d : PyData} (h : SeqAt.shaped d = true) : d.hasDict = false := PyData.hasDict_of_canLay d (SeqAt.canLay_of_shaped h)
mutual
theorem dp_mono (e : Ex G G') : ∀ {v : V} {d : PyData}, Dp K G v d → Dp K G' v d
  | _, _, .non => .non
  | _, _, .bl b => .bl b
  | _, _, .int i => .int i
  | _, _, .str x => .str x
  | _, _, .lst h a => .lst (ex_l e h) (dpa_mono e a)
  | _, _, .tup h a => .tup (e _ _ h) (dpa_mono e a)
  | _, _, .dct h a => .dct (e _ _ h) (dpk_mono e a)
theorem dpa_mono (e : Ex G G') : ∀ {vs : List V} {ds : List PyData}, DpAll K G vs ds → DpAll K G' vs ds
  | _, _, .nil => .nil
  | _, _, .cons h a => .cons (dp_mono e h) (dpa_mono e a)
theorem dpk_mono (e : Ex G G') : ∀ {vs : List (Key × V)} {ds : List (PyData × PyData)}, DpKv K G vs ds → DpKv K G' vs ds
  | _, _, .nil => .nil
  | _, _, .consI i h a => .consI i (dp_mono e h) (dpk_mono e a)
  | _, _, .consS x h a => .consS x (dp_mono e h) (dpk_mono e a)
end
inductive DS (K : PySem.W.Frag) (G : Hp) : V → SD → Prop
  | raw (v : V) : DS K G v (.raw v)
  | py {v : V} {d : PyData} : Dp K G v d → DS K G v (.py d)
  | ob {v : V} {φ : V → Hp → Prop} : φ v G → (∀ G', Ex G G' → φ v G') → DS K G v (.ob φ)
theorem ds_mono (e : Ex G G') : ∀ {v : V} {d : SD}, DS K G v d → DS K G' v d
  | _, _, .raw v => .raw v
  | _, _, .py h => .py (dp_mono e h)
  | _, _, .ob h k => .ob (k _ e) fun G' e' => k G' (e.trans e')
theorem ds_ob {v : V} {φ : V → Hp → Prop} (h : DS K G v (.ob φ)) : φ v G := by
  cases h with
  | ob h _ => exact h
inductive DSs (K : PySem.W.Frag) (G : Hp) : List V → List SD → Prop
  | nil : DSs K G [] []
  | cons {v : V} {vs : List V} {d : SD} {ds : List SD} : DS K G v d → DSs K G vs ds → DSs K G (v :: vs) (d :: ds)
theorem dss_mono (e : Ex G G') : ∀ {vs : List V} {ds : List SD}, DSs K G vs ds → DSs K G' vs ds
  | _, _, .nil => .nil
  | _, _, .cons h a => .cons (ds_mono e h) (dss_mono e a)
/-- the entries of a dict that is owned -/
inductive DSk (K : PySem.W.Frag) (G : Hp) : List (Key × V) → List (Key × SD) → Prop
  | nil : DSk K G [] []
  | cons {v : V} {d : SD} {kvs : List (Key × V)} {l : List (Key × SD)} (k : Key) : DS K G v d → DSk K G kvs l → DSk K G ((k, v) :: kvs) ((k, d) :: l)
theorem dsk_mono (e : Ex G G') : ∀ {kvs : List (Key × V)} {l : List (Key × SD)}, DSk K G kvs l → DSk K G' kvs l
  | _, _, .nil => .nil
  | _, _, .cons k h a => .cons k (ds_mono e h) (dsk_mono e a)
/-- the slots of an instance that is owned -/
inductive DSo (K : PySem.W.Frag) (G : Hp) : List (Option V) → List (Option SD) → Prop
  | nil : DSo K G [] []
  | none {vs : List (Option V)} {l : List (Option SD)} : DSo K G vs l → DSo K G (none :: vs) (none :: l)
  | some {v : V} {d : SD} {vs : List (Option V)} {l : List (Option SD)} : DS K G v d → DSo K G vs l → DSo K G (some v :: vs) (some d :: l)
theorem dso_mono (e : Ex G G') : ∀ {vs : List (Option V)} {l : List (Option SD)}, DSo K G vs l → DSo K G' vs l
  | _, _, .nil => .nil
  | _, _, .none a => .none (dso_mono e a)
  | _, _, .some h a => .some (ds_mono e h) (dso_mono e a)
theorem DSs.length : ∀ {vs : List V} {ds : List SD}, DSs K G vs ds → vs.length = ds.length
  | _, _, .nil => rfl
  | _, _, .cons _ a => by rw [List.length_cons, List.length_cons, a.length]
theorem dpa_length : ∀ {vs : List V} {ds : List PyData}, DpAll K G vs ds → vs.length = ds.length
  | _, _, .nil => rfl
  | _, _, .cons _ a => by rw [List.length_cons, List.length_cons, dpa_length a]
theorem dpa_get : ∀ {vs : List V} {ds : List PyData} {i : Nat} {d : PyData}, DpAll K G vs ds → ds[i]? = some d → ∃ v, vs[i]? = some v ∧ Dp K G v d
  | _, _, _, _, .nil, e => by simp at e
  | _, _, 0, _, .cons h _, e => by simp at e; subst e; exact ⟨_, rfl, h⟩
  | _, _, i + 1, _, .cons _ a, e => by
    obtain ⟨v, h1, h2⟩ := dpa_get (i := i) a (by simpa using e)
    exact ⟨v, by simpa using h1, h2⟩
theorem dpa_get' : ∀ {vs : List V} {ds : List PyData} {i : Nat} {v : V}, DpAll K G vs ds → vs[i]? = some v → ∃ d, ds[i]? = some d ∧ Dp K G v d
  | _, _, _, _, .nil, e => by simp at e
  | _, _, 0, _, .cons h _, e => by simp at e; subst e; exact ⟨_, rfl, h⟩
  | _, _, i + 1, _, .cons _ a, e => by
    obtain ⟨v, h1, h2⟩ := dpa_get' (i := i) a (by simpa using e)
    exact ⟨v, by simpa using h1, h2⟩
def OVok (K : PySem.W.Frag) (G : Hp) : OV → HO → Prop
  | .ho o, u => u = o ∧ ∀ xs, u ≠ .tup xs
  | .dl l, u => ∃ vs, u = .lst vs ∧ DpAll K G vs l
  | .tab q, u => ∃ ps : Array Value, u = .tbl ps ∧ TriplesOk ps.toList ∧ ∀ (pos : Pos) (cv : Value), codeAmong pos ps.toList = some cv → ∃ c, cv = .ref c ∧ G c = some (LamX.CodeO c q)
  | .sl l, u => ∃ vs, u = .lst vs ∧ DSs K G vs l
  | .ds l, u => ∃ kvs, u = .dK kvs ∧ DSk K G kvs l
  | .ins a C dx l, u => ∃ vs, u = SlX.SlO a C dx vs ∧ DSo K G vs l
theorem ov_nt : ∀ {v : OV} {o : HO}, OVok K G v o → ∀ xs, o ≠ .tup xs
  | .ho _, _, h => h.2
  | .dl _, _, ⟨_, h, _⟩ => fun xs z => by rw [h] at z; cases z
  | .tab _, _, ⟨_, h, _⟩ => fun xs z => by rw [h] at z; cases z
  | .sl _, _, ⟨_, h, _⟩ => fun xs z => by rw [h] at z; cases z
  | .ds _, _, ⟨_, h, _⟩ => fun xs z => by rw [h] at z; cases z
  | .ins _ _ _ _, _, ⟨_, h, _⟩ => fun xs z => by rw [h] at z; unfold SlX.SlO at z; cases z
theorem ov_mono (e : Ex G G') : ∀ {v : OV} {o : HO}, OVok K G v o → OVok K G' v o
  | .ho _, _, h => h
  | .dl _, _, ⟨vs, h1, h2⟩ => ⟨vs, h1, dpa_mono e h2⟩
  | .tab _, _, ⟨ps, h1, h2, h3⟩ => ⟨ps, h1, h2, fun pos cv h => let ⟨c, e1, e2⟩ := h3 pos cv h; ⟨c, e1, e _ _ e2⟩⟩
  | .sl _, _, ⟨vs, h1, h2⟩ => ⟨vs, h1, dss_mono e h2⟩
  | .ds _, _, ⟨vs, h1, h2⟩ => ⟨vs, h1, dsk_mono e h2⟩
  | .ins _ _ _ _, _, ⟨vs, h1, h2⟩ => ⟨vs, h1, dso_mono e h2⟩
theorem dpa_append : ∀ {vs us : List V} {ds es : List PyData}, DpAll K G vs ds → DpAll K G us es → DpAll K G (vs ++ us) (ds ++ es)
  | _, _, _, _, .nil, b => b
  | _, _, _, _, .cons h a, b => .cons h (dpa_append a b)
theorem dpa_take : ∀ {vs : List V} {ds : List PyData} (n : Nat), DpAll K G vs ds → DpAll K G (vs.take n) (ds.take n)
  | _, _, 0, _ => .nil
  | _, _, _ + 1, .nil => .nil
  | _, _, n + 1, .cons h a => .cons h (dpa_take n a)
theorem dpa_drop : ∀ {vs : List V} {ds : List PyData} (n : Nat), DpAll K G vs ds → DpAll K G (vs.drop n) (ds.drop n)
  | _, _, 0, a => a
  | _, _, _ + 1, .nil => .nil
  | _, _, n + 1, .cons _ a => dpa_drop n a
end
/-! ### growth: G what nobody changes, m what is owned -/
structure Wd (K : PySem.W.Frag) (m : MS) (G H : Hp) : Prop where
  w : Ex G H
  own : ∀ p ∈ m, G p.1 = none ∧ ∃ o, H p.1 = some o ∧ OVok K G p.2 o
  nd : (ad m).Nodup
structure Gr (K : PySem.W.Frag) (m m' : MS) (G H G' H' : Hp) : Prop where
  g : Ex G G'
  h : ∀ a o, a ∉ ad m → H a = some o → H' a = some o
  th : ∀ a, H a ≠ none → H' a ≠ none
  fr : ∀ a, a ∉ ad m → G a = none → H a ≠ none → (∀ xs, H a ≠ some (.tup xs)) → G' a = none
  nw : ∀ p ∈ m', p.1 ∈ ad m ∨ H p.1 = none
  wd : Wd K m' G' H'
theorem mem_ad {m : MS} {p : Addr × OV} (h : p ∈ m) : p.1 ∈ ad m := List.mem_map_of_mem h
theorem of_ad {m : MS} {a : Addr} (h : a ∈ ad m) : ∃ o, (a, o) ∈ m := by
  obtain ⟨p, hp, e⟩ := List.mem_map.mp h
  exact ⟨p.2, by rw [← e]; exact hp⟩
theorem nn {α : Type} {x : Option α} {o : α} (e : x = some o) : x ≠ none := by rw [e]; exact fun z => nomatch z
section
variable {K : PySem.W.Frag} {m m' m1 m2 : MS} {G H G' H' G1 H1 G2 H2 : Hp}
theorem Gr.refl (w : Wd K m G H) : Gr K m m G H G H := ⟨Ex.refl _, fun _ _ _ e => e, fun _ e => e, fun _ _ e _ _ => e, fun _ hp => .inl (mem_ad hp), w⟩
theorem Gr.out (a : Gr K m m1 G H G1 H1) {c : Addr} (hc : c ∉ ad m) (e : H c ≠ none) : c ∉ ad m1 := fun z => by
  obtain ⟨u, hu⟩ := of_ad z
  rcases a.nw _ hu with q | q
  · exact hc q
  · exact e q
theorem Gr.trans (a : Gr K m m1 G H G1 H1) (b : Gr K m1 m2 G1 H1 G2 H2) : Gr K m m2 G H G2 H2 where
  g := a.g.trans b.g
  h := fun c o hc e => b.h c o (a.out hc (nn e)) (a.h c o hc e)
  th := fun c e => b.th c (a.th c e)
  fr := fun c hc e f nt => b.fr c (a.out hc f) (a.fr c hc e f nt) (a.th c f) fun xs z => by
    cases q : H c with
    | none => exact f q
    | some o =>
      have y := a.h c o hc q
      rw [z] at y
      cases y
      exact nt _ q
  nw := fun p hp => by
    rcases b.nw p hp with q | q
    · obtain ⟨u, hu⟩ := of_ad q
      exact a.nw (p.1, u) hu
    · refine .inr ?_
      cases z : H p.1 with
      | none => rfl
      | some o => exact absurd q (a.th _ (nn z))
  wd := b.wd
/-- a new thing that nobody will change -/
theorem Gr.new {p : Addr} {o : HO} (w : Wd K m G H) (hp : H p = none) : Gr K m m G H (upd G p o) (upd H p o) where
  g := Ex.new (w.w.back hp)
  h := fun a u _ e => by rw [upd_ne (ne_of_none e hp)]; exact e
  th := fun a e => by
    by_cases q : a = p
    · subst q; rw [upd_same]; exact fun z => nomatch z
    · rw [upd_ne q]; exact e
  fr := fun a _ e f _ => by
    by_cases q : a = p
    · subst q; exact absurd hp f
    · rw [upd_ne q]; exact e
  nw := fun q hq => .inl (mem_ad hq)
  wd := ⟨w.w.both, fun q hq => by
    obtain ⟨h1, u, h2, h3⟩ := w.own q hq
    have ne : q.1 ≠ p := ne_of_none h2 hp
    rw [upd_ne ne, upd_ne ne]
    exact ⟨h1, u, h2, ov_mono (Ex.new (w.w.back hp)) h3⟩, w.nd⟩
/-- a new thing that is owned -/
theorem Gr.made {p : Addr} {o : HO} {v : OV} (w : Wd K m G H) (hp : H p = none) (ho : OVok K G v o) : Gr K m ((p, v) :: m) G H G (upd H p o) where
  g := Ex.refl _
  h := fun a u _ e => by rw [upd_ne (ne_of_none e hp)]; exact e
  th := fun a e => by
    by_cases q : a = p
    · subst q; rw [upd_same]; exact fun z => nomatch z
    · rw [upd_ne q]; exact e
  fr := fun a _ e _ _ => e
  nw := fun q hq => by
    rcases List.mem_cons.mp hq with rfl | hq
    · exact .inr hp
    · exact .inl (mem_ad hq)
  wd := ⟨fun a u e => by rw [upd_ne (ne_of_none (w.w a u e) hp)]; exact w.w a u e, fun q hq => by
    rcases List.mem_cons.mp hq with rfl | hq
    · exact ⟨w.w.back hp, o, upd_same, ho⟩
    · obtain ⟨h1, u, h2, h3⟩ := w.own q hq
      rw [upd_ne (ne_of_none h2 hp)]
      exact ⟨h1, u, h2, h3⟩, by
    refine List.nodup_cons.mpr ⟨fun z => ?_, w.nd⟩
    obtain ⟨u, hu⟩ := of_ad z
    obtain ⟨_, u, q, _⟩ := w.own _ hu
    have q : H p = some u := q
    rw [hp] at q; cases q⟩
/-- the owned thing at p behind a store -/
def mset (m : MS) (p : Addr) (o : OV) : MS := m.map fun q => if q.1 = p then (p, o) else q
theorem ad_mset (m : MS) (p : Addr) (o : OV) : ad (mset m p o) = ad m := by
  unfold ad mset
  rw [List.map_map]
  refine List.map_congr_left fun q _ => ?_
  show (if q.1 = p then (p, o) else q).1 = q.1
  by_cases e : q.1 = p
  · rw [if_pos e]; exact e.symm
  · rw [if_neg e]
theorem Gr.set {p : Addr} {o : HO} {u v : OV} (w : Wd K m G H) (hp : (p, u) ∈ m) (ho : OVok K G v o) : Gr K m (mset m p v) G H G (upd H p o) where
  g := Ex.refl _
  h := fun a x ha e => by
    have ne : a ≠ p := fun z => ha (by rw [z]; exact mem_ad hp)
    rw [upd_ne ne]; exact e
  th := fun a e => by
    by_cases q : a = p
    · subst q; rw [upd_same]; exact fun z => nomatch z
    · rw [upd_ne q]; exact e
  fr := fun a _ e _ _ => e
  nw := fun q hq => .inl (by rw [← ad_mset m p v]; exact mem_ad hq)
  wd := ⟨fun a x e => by
    have ne : a ≠ p := fun z => by
      have q : G p = none := (w.own _ hp).1
      rw [← z, e] at q; cases q
    rw [upd_ne ne]; exact w.w a x e, fun q hq => by
    obtain ⟨r, hr, e⟩ := List.mem_map.mp hq
    by_cases z : r.1 = p
    · rw [if_pos z] at e
      subst e
      exact ⟨(w.own _ hp).1, o, upd_same, ho⟩
    · rw [if_neg z] at e
      subst e
      rw [upd_ne z]
      exact w.own r hr, by rw [ad_mset]; exact w.nd⟩
theorem Wd.perm (w : Wd K m G H) (h : m.Perm m') : Wd K m' G H := ⟨w.w, fun p hp => w.own p (h.mem_iff.mpr hp), (h.map _).nodup_iff.mp w.nd⟩
/-- what one owns beside stays -/
theorem Gr.frame {fr : MS} (w : Wd K (fr ++ m) G H) (a : Gr K m m' G H G' H') : Gr K (fr ++ m) (fr ++ m') G H G' H' where
  g := a.g
  h := fun b o hb e => a.h b o (fun z => hb (by unfold ad at *; rw [List.map_append]; exact List.mem_append_right _ z)) e
  th := a.th
  fr := fun b hb e f nt => a.fr b (fun z => hb (by unfold ad at *; rw [List.map_append]; exact List.mem_append_right _ z)) e f nt
  nw := fun p hp => by
    rcases List.mem_append.mp hp with hp | hp
    · exact .inl (mem_ad (List.mem_append_left _ hp))
    · rcases a.nw p hp with q | q
      · exact .inl (by unfold ad at *; rw [List.map_append]; exact List.mem_append_right _ q)
      · exact .inr q
  wd := by
    have nd := w.nd
    unfold ad at nd
    rw [List.map_append, List.nodup_append] at nd
    obtain ⟨n1, n2, n3⟩ := nd
    have fresh : ∀ p ∈ fr, p.1 ∉ ad m := fun p hp z => n3 _ (List.mem_map_of_mem hp) _ z rfl
    refine ⟨a.wd.w, fun p hp => ?_, ?_⟩
    · rcases List.mem_append.mp hp with hp | hp
      · obtain ⟨h1, u, h2, h3⟩ := w.own p (List.mem_append_left _ hp)
        exact ⟨a.fr _ (fresh p hp) h1 (nn h2) (fun xs z => ov_nt h3 xs (by rw [h2] at z; exact Option.some.inj z)), u, a.h _ _ (fresh p hp) h2, ov_mono a.g h3⟩
      · exact a.wd.own p hp
    · unfold ad
      rw [List.map_append, List.nodup_append]
      refine ⟨n1, a.wd.nd, fun x hx y hy z => ?_⟩
      subst z
      obtain ⟨p, hp, rfl⟩ := List.mem_map.mp hx
      obtain ⟨q, hq, e⟩ := List.mem_map.mp hy
      rcases a.nw q hq with r | r
      · rw [e] at r; exact fresh p hp r
      · obtain ⟨_, u, h2, _⟩ := w.own p (List.mem_append_left _ hp)
        rw [e, h2] at r; cases r
theorem Wd.sub {fr : MS} (w : Wd K (fr ++ m) G H) : Wd K m G H := ⟨w.w, fun p hp => w.own p (List.mem_append_right _ hp), by
  have nd := w.nd
  unfold ad at nd ⊢
  rw [List.map_append, List.nodup_append] at nd
  exact nd.2.1⟩
/-- an owned thing is given up: nobody will change it from here on -/
theorem Gr.seal {p : Addr} {o : HO} {v : OV} (w : Wd K ((p, v) :: m) G H) (ho : H p = some o) : Gr K ((p, v) :: m) m G H (upd G p o) H where
  g := Ex.new (w.own _ List.mem_cons_self).1
  h := fun _ _ _ e => e
  th := fun _ e => e
  fr := fun a ha e f _ => by
    have ne : a ≠ p := fun z => ha (by rw [z]; exact List.mem_cons_self)
    rw [upd_ne ne]; exact e
  nw := fun q hq => .inl (mem_ad (List.mem_cons_of_mem _ hq))
  wd := by
    have nd := w.nd
    unfold ad at nd
    rw [List.map_cons, List.nodup_cons] at nd
    refine ⟨fun a u e => ?_, fun q hq => ?_, nd.2⟩
    · by_cases z : a = p
      · subst z; rw [upd_same] at e; cases e; exact ho
      · rw [upd_ne z] at e; exact w.w a u e
    · obtain ⟨h1, u, h2, h3⟩ := w.own q (List.mem_cons_of_mem _ hq)
      have ne : q.1 ≠ p := fun z => nd.1 (List.mem_map.mpr ⟨q, hq, z⟩)
      rw [upd_ne ne]
      exact ⟨h1, u, h2, ov_mono (Ex.new (w.own _ List.mem_cons_self).1) h3⟩
/-- an owned thing is forgotten -/
theorem Gr.drop {p : Addr} {v : OV} (w : Wd K ((p, v) :: m) G H) : Gr K ((p, v) :: m) m G H G H := ⟨Ex.refl _, fun _ _ _ e => e, fun _ e => e, fun _ _ e _ _ => e, fun q hq => .inl (mem_ad (List.mem_cons_of_mem _ hq)),
  ⟨w.w, fun q hq => w.own q (List.mem_cons_of_mem _ hq), by
    have nd := w.nd
    unfold ad at nd ⊢
    rw [List.map_cons, List.nodup_cons] at nd
    exact nd.2⟩⟩
end
end W9
namespace W9
open PySem PySem.Spec PyProof.Rows L2
/-! ### what is wanted of a state, by the syntax itself -/
section
variable (X : Cx)
def wE (e : Expr) : TE := fun σ H Q => ∀ pins s, Inv X pins σ H s → wpAny (model X.prog X.w) X.A (eval e X.env) (EP X pins σ Q) X.xe s
def wT (e : Expr) : TT := fun σ H Q => ∀ pins s, Inv X pins σ H s → wpAny (model X.prog X.w) X.A (isTrue e X.env (eval e X.env)) (TP X pins σ Q) X.xe s
def wA (es : List Expr) : TA := fun σ H Q => ∀ (pos : Pos) pins s, Inv X pins σ H s → wpAny (model X.prog X.w) X.A (spliced (backTo pos (starEach es X.env))) (AP X pins σ Q) X.xe s
def wS (st : Stmt) : TS := fun D σ H => ∀ pins s, Inv X pins σ H s → wpAny (model X.prog X.w) X.A (exec st X.env) (SP X pins D) X.xe s
def wSs (st : List Stmt) : TS := fun D σ H => ∀ pins s, Inv X pins σ H s → wpAny (model X.prog X.w) X.A (execs st X.env) (SP X pins D) X.xe s
def wG (tg : Expr) : TG := fun v σ H Q => ∀ pins s u, Inv X pins σ H s → RelV v u → wpAny (model X.prog X.w) X.A (assign tg X.env u) (fun _ s' => ∃ σ' H', Inv X pins σ' H' s' ∧ Q σ' H') X.xe s
def wGs (ts : List Expr) : TGs := fun vs σ H Q => ∀ pins s us, Inv X pins σ H s → Vals vs us → wpAny (model X.prog X.w) X.A (assignInOrder ((assignEach ts X.env).map (·.2)) us) (fun _ s' => ∃ σ' H', Inv X pins σ' H' s' ∧ Q σ' H') X.xe s
def wI (tg iter : Expr) : TI := fun σ H R => ∀ pins s, Inv X pins σ H s → wpAny (model X.prog X.w) X.A (eval iter X.env) (fun v s1 => wpAny (model X.prog X.w) X.A (pyIter v) (PIE X pins σ tg R) X.xe s1) X.xe s
def wP (e : Option Expr) : TO := fun σ H Q => ∀ pins s, Inv X pins σ H s → wpAny (model X.prog X.w) X.A (evalPart e X.env) (fun u s' => ∃ o H', Inv X pins σ H' s' ∧ IsPart u o ∧ Q o H') X.xe s
def wTs (ifs : List Expr) : TT := fun σ H Q => ∀ pins s, Inv X pins σ H s → wpAny (model X.prog X.w) X.A (forIn ifs true fun c r => if r = true then do let ok ← isTrue c X.env (eval c X.env); pure (ForInStep.yield ok) else pure (ForInStep.yield r)) (TP X pins σ Q) X.xe s
end
section
variable {X : Cx}
theorem pE (e : Expr) : PE X e (wE X e) := ⟨fun pins s σ H Q I h => h pins s I⟩
theorem pT (e : Expr) : PT X e (wT X e) := ⟨fun pins s σ H Q I h => h pins s I⟩
theorem pA (es : List Expr) : PA X es (wA X es) := ⟨fun pos pins s σ H Q I h => h pos pins s I⟩
theorem pS (st : Stmt) : PS X st (wS X st) := ⟨fun pins s σ H D I h => h pins s I⟩
theorem pSs (st : List Stmt) : PSs X st (wSs X st) := ⟨fun pins s σ H D I h => h pins s I⟩
theorem pG (tg : Expr) : PG X tg (wG X tg) := ⟨fun pins s σ H v u Q I r h => h pins s u I r⟩
theorem pGs (tg : List Expr) : PGs X tg (wGs X tg) := ⟨fun pins s σ H v u Q I r h => h pins s u I r⟩
theorem pI (tg iter : Expr) : PI X tg iter (wI X tg iter) := ⟨fun pins s σ H R I h => h pins s I⟩
theorem pO (e : Option Expr) : PO X e (wP X e) := ⟨fun pins s σ H Q I h => h pins s I⟩
theorem oE {e : Expr} {t : TE} (p : PE X e t) {σ : L2.St} {H : Hp} {Q : VK} (h : t σ H Q) : wE X e σ H Q := fun pins s I => p.run pins s σ H Q I h
theorem oT {e : Expr} {t : TT} (p : PT X e t) {σ : L2.St} {H : Hp} {Q : Bool → Hp → Prop} (h : t σ H Q) : wT X e σ H Q := fun pins s I => p.run pins s σ H Q I h
theorem oA {es : List Expr} {t : TA} (p : PA X es t) {σ : L2.St} {H : Hp} {Q : List V → Hp → Prop} (h : t σ H Q) : wA X es σ H Q := fun pos pins s I => p.run pos pins s σ H Q I h
theorem oS {st : Stmt} {t : TS} (p : PS X st t) {σ : L2.St} {H : Hp} {D : Ends} (h : t D σ H) : wS X st D σ H := fun pins s I => p.run pins s σ H D I h
theorem oSs {st : List Stmt} {t : TS} (p : PSs X st t) {σ : L2.St} {H : Hp} {D : Ends} (h : t D σ H) : wSs X st D σ H := fun pins s I => p.run pins s σ H D I h
theorem oG {tg : Expr} {t : TG} (p : PG X tg t) {v : V} {σ : L2.St} {H : Hp} {Q : L2.St → Hp → Prop} (h : t v σ H Q) : wG X tg v σ H Q := fun pins s u I r => p.run pins s σ H v u Q I r h
theorem oI {tg iter : Expr} {t : TI} (p : PI X tg iter t) {σ : L2.St} {H : Hp} {R : It → Hp → Prop} (h : t σ H R) : wI X tg iter σ H R := fun pins s I => p.run pins s σ H R I h
end
/-! ### the judgements over data -/
def EnvD (K : PySem.W.Frag) (G : Hp) (σ : L2.St) (ds : DE) : Prop := σ.length = ds.length ∧ ∀ (i : Nat) (d : SD), ds[i]? = some (some d) → ∃ v, σ[i]? = some (some v) ∧ DS K G v d
section
variable {K : PySem.W.Frag} {G G' : Hp} {σ : L2.St} {ds : DE}
theorem EnvD.mono (E : EnvD K G σ ds) (e : Ex G G') : EnvD K G' σ ds := ⟨E.1, fun i d h => let ⟨v, h1, h2⟩ := E.2 i d h; ⟨v, h1, ds_mono e h2⟩⟩
theorem EnvD.set (E : EnvD K G σ ds) {i : Nat} {v : V} {d : SD} (h : DS K G v d) : EnvD K G (σ.set i (some v)) (ds.set i (some d)) := by
  refine ⟨by rw [List.length_set, List.length_set]; exact E.1, fun j e he => ?_⟩
  by_cases hj : i = j
  · subst hj
    by_cases hl : i < ds.length
    · rw [List.getElem?_set_self hl] at he
      have hs : i < σ.length := by rw [E.1]; exact hl
      rw [List.getElem?_set_self hs]
      cases he
      exact ⟨v, rfl, h⟩
    · rw [List.getElem?_eq_none (by rw [List.length_set]; omega)] at he; cases he
  · rw [List.getElem?_set_ne hj] at he ⊢
    exact E.2 j e he
end
section
variable (X : Cx)
def WE (e : Expr) (ds : DE) (m : MS) (P : SD → MS → Prop) : Prop := ∀ σ G H, EnvD X.K G σ ds → Wd X.K m G H → ∀ Q : VK, (∀ v d m' G' H', Gr X.K m m' G H G' H' → DS X.K G' v d → P d m' → Q v H') → wE X e σ H Q
def WT (e : Expr) (ds : DE) (m : MS) (P : Bool → MS → Prop) : Prop := ∀ σ G H, EnvD X.K G σ ds → Wd X.K m G H → ∀ Q : Bool → Hp → Prop, (∀ b m' G' H', Gr X.K m m' G H G' H' → P b m' → Q b H') → wT X e σ H Q
def WTs (es : List Expr) (ds : DE) (m : MS) (P : Bool → MS → Prop) : Prop := ∀ σ G H, EnvD X.K G σ ds → Wd X.K m G H → ∀ Q : Bool → Hp → Prop, (∀ b m' G' H', Gr X.K m m' G H G' H' → P b m' → Q b H') → wTs X es σ H Q
def WA (es : List Expr) (ds : DE) (m : MS) (P : List SD → MS → Prop) : Prop := ∀ σ G H, EnvD X.K G σ ds → Wd X.K m G H → ∀ Q : List V → Hp → Prop, (∀ vs xs m' G' H', Gr X.K m m' G H G' H' → DSs X.K G' vs xs → P xs m' → Q vs H') → wA X es σ H Q
def WO (e : Option Expr) (ds : DE) (m : MS) (P : Option Int → MS → Prop) : Prop := ∀ σ G H, EnvD X.K G σ ds → Wd X.K m G H → ∀ Q : Option Int → Hp → Prop, (∀ o m' G' H', Gr X.K m m' G H G' H' → P o m' → Q o H') → wP X e σ H Q
/-- a target: the slots js alone are written -/
def WG (tg : Expr) (js : List Nat) (x : SD) (ds : DE) (m : MS) (P : DE → MS → Prop) : Prop := ∀ σ G H v, EnvD X.K G σ ds → Wd X.K m G H → DS X.K G v x → ∀ Q : L2.St → Hp → Prop,
  (∀ σ' ds' m' G' H', Gr X.K m m' G H G' H' → EnvD X.K G' σ' ds' → ((∀ i, i ∉ js → σ'[i]? = σ[i]?) ∧ σ'.length = σ.length) → P ds' m' → Q σ' H') → wG X tg v σ H Q
def WGs (tgs : List Expr) (js : List Nat) (xs : List SD) (ds : DE) (m : MS) (P : DE → MS → Prop) : Prop := ∀ σ G H vs, EnvD X.K G σ ds → Wd X.K m G H → DSs X.K G vs xs → ∀ Q : L2.St → Hp → Prop,
  (∀ σ' ds' m' G' H', Gr X.K m m' G H G' H' → EnvD X.K G' σ' ds' → ((∀ i, i ∉ js → σ'[i]? = σ[i]?) ∧ σ'.length = σ.length) → P ds' m' → Q σ' H') → wGs X tgs vs σ H Q
structure ED where
  nx : DE → MS → Prop
  rt : SD → MS → Prop := fun _ _ => False
  bk : DE → MS → Prop := fun _ _ => False
  ct : DE → MS → Prop := fun _ _ => False
structure EndsOk (K : PySem.W.Frag) (m : MS) (G H : Hp) (E : ED) (D : Ends) : Prop where
  nx : ∀ σ' ds' m' G' H', Gr K m m' G H G' H' → EnvD K G' σ' ds' → E.nx ds' m' → D.nx σ' H'
  rt : ∀ v d m' G' H', Gr K m m' G H G' H' → DS K G' v d → E.rt d m' → D.rt v H'
  bk : ∀ σ' ds' m' G' H', Gr K m m' G H G' H' → EnvD K G' σ' ds' → E.bk ds' m' → D.bk σ' H'
  ct : ∀ σ' ds' m' G' H', Gr K m m' G H G' H' → EnvD K G' σ' ds' → E.ct ds' m' → D.ct σ' H'
def WS (st : Stmt) (ds : DE) (m : MS) (E : ED) : Prop := ∀ σ G H, EnvD X.K G σ ds → Wd X.K m G H → ∀ D, EndsOk X.K m G H E D → wS X st D σ H
def WSs (st : List Stmt) (ds : DE) (m : MS) (E : ED) : Prop := ∀ σ G H, EnvD X.K G σ ds → Wd X.K m G H → ∀ D, EndsOk X.K m G H E D → wSs X st D σ H
/-- a plain value, whatever is owned -/
def EE (e : Expr) (ds : DE) (d : SD) : Prop := ∀ m, WE X e ds m fun d' m' => d' = d ∧ m' = m
def ET (e : Expr) (ds : DE) (b : Bool) : Prop := ∀ m, WT X e ds m fun b' m' => b' = b ∧ m' = m
def EA (es : List Expr) (ds : DE) (xs : List SD) : Prop := ∀ m, WA X es ds m fun d' m' => d' = xs ∧ m' = m
end
theorem EndsOk.after {K : PySem.W.Frag} {m m1 : MS} {G H G1 H1 : Hp} {E : ED} {D : Ends} (k : EndsOk K m G H E D) (g : Gr K m m1 G H G1 H1) : EndsOk K m1 G1 H1 E D :=
  ⟨fun σ' ds' m' G' H' a => k.nx σ' ds' m' G' H' (g.trans a), fun v d m' G' H' a => k.rt v d m' G' H' (g.trans a), fun σ' ds' m' G' H' a => k.bk σ' ds' m' G' H' (g.trans a), fun σ' ds' m' G' H' a => k.ct σ' ds' m' G' H' (g.trans a)⟩
section
variable {X : Cx} {ds : DE} {m : MS} {e a b c : Expr} {pos : Pos}
theorem WE.mono {P P' : SD → MS → Prop} (h : WE X e ds m P) (k : ∀ d m', P d m' → P' d m') : WE X e ds m P' := fun σ G H E w Q q => h σ G H E w Q fun v d m' G' H' g r p => q v d m' G' H' g r (k d m' p)
theorem WT.mono {P P' : Bool → MS → Prop} (h : WT X e ds m P) (k : ∀ d m', P d m' → P' d m') : WT X e ds m P' := fun σ G H E w Q q => h σ G H E w Q fun v m' G' H' g p => q v m' G' H' g (k v m' p)
theorem WA.mono {es : List Expr} {P P' : List SD → MS → Prop} (h : WA X es ds m P) (k : ∀ d m', P d m' → P' d m') : WA X es ds m P' := fun σ G H E w Q q => h σ G H E w Q fun v d m' G' H' g r p => q v d m' G' H' g r (k d m' p)
theorem EE.to {d : SD} {P : SD → MS → Prop} (h : EE X e ds d) (p : P d m) : WE X e ds m P := (h m).mono fun d' m' ⟨e1, e2⟩ => by subst e1 e2; exact p
theorem ET.to {d : Bool} {P : Bool → MS → Prop} (h : ET X e ds d) (p : P d m) : WT X e ds m P := (h m).mono fun d' m' ⟨e1, e2⟩ => by subst e1 e2; exact p
theorem EA.to {es : List Expr} {d : List SD} {P : List SD → MS → Prop} (h : EA X es ds d) (p : P d m) : WA X es ds m P := (h m).mono fun d' m' ⟨e1, e2⟩ => by subst e1 e2; exact p
theorem EE.is {d d' : SD} (h : EE X e ds d) (q : d = d') : EE X e ds d' := by rw [← q]; exact h
theorem ET.is {d d' : Bool} (h : ET X e ds d) (q : d = d') : ET X e ds d' := by rw [← q]; exact h
/-! ### names, constants -/
theorem we_var {i : Nat} {x : Str} {d : SD} {P : SD → MS → Prop} (hd : ds[i]? = some (some d)) (hN : X.N[i]? = some x) (hv : Vis X.env.scope x) (p : P d m)
    (hdb : (x == ("__debug__" : Str)) = false := by decide) (hcd : (x == ("__classdict__" : Str)) = false := by decide) : WE X (.Name x pos) ds m P := fun σ G H E w Q q => by
  obtain ⟨v, h1, h2⟩ := E.2 i d hd
  exact oE (pe_var hN hv hdb hcd) ⟨v, h1, q v d m G H (.refl w) h2 p⟩
theorem ee_var {i : Nat} {x : Str} {d : SD} (hd : ds[i]? = some (some d)) (hN : X.N[i]? = some x := by rfl) (hv : Vis X.env.scope x := by first | exact Or.inl rfl | exact Or.inr (Or.inl rfl) | exact Or.inr (Or.inr rfl))
    (hdb : (x == ("__debug__" : Str)) = false := by decide) (hcd : (x == ("__classdict__" : Str)) = false := by decide) : EE X (.Name x pos) ds d := fun m => we_var hd hN hv ⟨rfl, rfl⟩ hdb hcd
abbrev I (i : Int) : SD := .py (.int i)
abbrev B (b : Bool) : SD := .py (.bool b)
abbrev S (l : List Nat) : SD := .py (.str ⟨l.toArray⟩)
abbrev N0 : SD := .py .none
abbrev Tp (l : List PyData) : SD := .py (.tuple l)
abbrev Ls (l : List PyData) : SD := .py (.list l)
theorem ee_c {v : V} {d : SD} (p : PE X e (tC v)) (h : ∀ G, DS X.K G v d) : EE X e ds d := fun m σ G H E w Q q => oE p (q v d m G H (.refl w) (h G) ⟨rfl, rfl⟩)
theorem ee_int {i j} : EE X (.Constant (.int i) j pos) ds (I i) := ee_c pe_int fun _ => .py (.int i)
theorem ee_bl {i j} : EE X (.Constant (.bool i) j pos) ds (B i) := ee_c pe_bl fun _ => .py (.bl i)
theorem ee_non {j} : EE X (.Constant .none j pos) ds N0 := ee_c pe_non fun _ => .py .non
theorem ee_str {i j} : EE X (.Constant (.str i) j pos) ds (.py (.str i)) := ee_c pe_str fun _ => .py (.str i)
theorem ee_strS {i j} {l : List Nat} (h : i = ⟨l.toArray⟩ := by first | rfl | decide +kernel) : EE X (.Constant (.str i) j pos) ds (S l) := ee_c pe_str fun _ => by rw [h]; exact .py (.str _)
theorem ee_glob {x : Str} {v : V} {u : Value} {d : SD} (hm : X.mg x = some u) (r : RelV v u) (h : ∀ G, DS X.K G v d) (hg : Gl X x := by rfl) (hd : (x == ("__debug__" : Str)) = false := by decide) : EE X (.Name x pos) ds d := ee_c (pe_glob hg hm r hd) h
/-! ### operations on values -/
/-- x op y is z -/
def R2D (X : Cx) (m : MS) (r : R2) (x y z : SD) : Prop := ∀ G H v u, Wd X.K m G H → DS X.K G v x → DS X.K G u y → ∀ Q : VK, (∀ w G' H', Gr X.K m m G H G' H' → DS X.K G' w z → Q w H') → r v u H Q
def BinD (X : Cx) (op : Operator) (x y z : SD) : Prop := ∃ r, OpR X (binaryOp op) r ∧ ∀ m, R2D X m r x y z
def CmpD (X : Cx) (op : CmpOp) (x y : SD) (z : Bool) : Prop := ∃ r, OpR X (compareOp op) r ∧ ∀ m, R2D X m r x y (B z)
def SubD (X : Cx) (m : MS) (x y z : SD) : Prop := ∃ r, IxR X r ∧ R2D X m r x y z
theorem we_bin {op : Operator} {P : SD → MS → Prop} (h : WE X a ds m fun x m1 => WE X b ds m1 fun y m2 => ∃ z, BinD X op x y z ∧ P z m2) : WE X (.BinOp a op b pos) ds m P := fun σ G H E w Q q => by
  intro pins s I
  refine wpAny_BinOp (binT (pE a) (pE b) (R := fun v u H2 => ∃ r, OpR X (binaryOp op) r ∧ r v u H2 Q) I ?_ fun v u s2 x y H2 I2 rx ry ⟨r, ho, hr⟩ => ho pins s2 σ H2 x y v u Q I2 rx ry hr)
  refine h σ G H E w _ fun v x m1 G1 H1 g1 r1 p1 => p1 σ G1 H1 (E.mono g1.g) g1.wd _ fun u y m2 G2 H2 g2 r2 ⟨z, ⟨r, ho, hr⟩, p⟩ => ⟨r, ho, ?_⟩
  exact hr m2 G2 H2 v u g2.wd (ds_mono g2.g r1) r2 Q fun w' G3 H3 g3 r3 => q w' z m2 G3 H3 ((g1.trans g2).trans g3) r3 p
theorem ee_bin {op : Operator} {x y z : SD} (ha : EE X a ds x) (hb : EE X b ds y) (hr : BinD X op x y z) : EE X (.BinOp a op b pos) ds z := fun m => we_bin (ha.to (hb.to ⟨z, hr, rfl, rfl⟩))
theorem we_cmp {op : CmpOp} {P : SD → MS → Prop} (h : WE X a ds m fun x m1 => WE X b ds m1 fun y m2 => ∃ z, CmpD X op x y z ∧ P (B z) m2) (hm : behindInMarks op b = false := by first | exact nobehind _ (by decide) (by decide) | rfl) : WE X (.Compare a [op] [b] pos) ds m P := fun σ G H E w Q q => by
  intro pins s I
  refine wpAny_Compare1 (binT (pE a) (pE b) (R := fun v u H2 => ∃ r, OpR X (compareOp op) r ∧ r v u H2 Q) I ?_ fun v u s2 x y H2 I2 rx ry ⟨r, ho, hr⟩ => ho pins s2 σ H2 x y v u Q I2 rx ry hr) hm
  refine h σ G H E w _ fun v x m1 G1 H1 g1 r1 p1 => p1 σ G1 H1 (E.mono g1.g) g1.wd _ fun u y m2 G2 H2 g2 r2 ⟨z, ⟨r, ho, hr⟩, p⟩ => ⟨r, ho, ?_⟩
  exact hr m2 G2 H2 v u g2.wd (ds_mono g2.g r1) r2 Q fun w' G3 H3 g3 r3 => q w' (B z) m2 G3 H3 ((g1.trans g2).trans g3) r3 p
theorem ee_cmp {op : CmpOp} {x y : SD} {z : Bool} (ha : EE X a ds x) (hb : EE X b ds y) (hr : CmpD X op x y z) (hm : behindInMarks op b = false := by first | exact nobehind _ (by decide) (by decide) | rfl) : EE X (.Compare a [op] [b] pos) ds (B z) := fun m => we_cmp (ha.to (hb.to ⟨z, hr, rfl, rfl⟩)) hm
theorem ds_bl {K : PySem.W.Frag} {G : Hp} {v : V} {z : Bool} (h : DS K G v (B z)) : v = .bl z := by
  cases h with
  | py h => cases h; rfl
theorem ds_int {K : PySem.W.Frag} {G : Hp} {v : V} {z : Int} (h : DS K G v (I z)) : v = .int z := by
  cases h with
  | py h => cases h; rfl
theorem ds_str {K : PySem.W.Frag} {G : Hp} {v : V} {z : Str} (h : DS K G v (.py (.str z))) : v = .str z := by
  cases h with
  | py h => cases h; rfl
theorem ds_non {K : PySem.W.Frag} {G : Hp} {v : V} (h : DS K G v N0) : v = .non := by
  cases h with
  | py h => cases h; rfl
theorem ds_tup {K : PySem.W.Frag} {G : Hp} {v : V} {l : List PyData} (h : DS K G v (Tp l)) : ∃ a xs, v = .ref a ∧ SqT K G a xs ∧ DpAll K G xs l := by
  cases h with
  | py h => cases h with
    | tup h1 h2 => exact ⟨_, _, rfl, SqT.of h1, h2⟩
theorem ds_lst {K : PySem.W.Frag} {G : Hp} {v : V} {l : List PyData} (h : DS K G v (Ls l)) : ∃ a xs, v = .ref a ∧ SqL K G a xs ∧ DpAll K G xs l := by
  cases h with
  | py h => cases h with
    | lst h1 h2 => exact ⟨_, _, rfl, h1, h2⟩
theorem ds_raw {K : PySem.W.Frag} {G : Hp} {v u : V} (h : DS K G v (.raw u)) : v = u := by cases h; rfl
theorem wt_cmp {op : CmpOp} {P : Bool → MS → Prop} (h : WE X a ds m fun x m1 => WE X b ds m1 fun y m2 => ∃ z, CmpD X op x y z ∧ P z m2) (hm : behindInMarks op b = false := by first | exact nobehind _ (by decide) (by decide) | rfl) : WT X (.Compare a [op] [b] pos) ds m P := fun σ G H E w Q q => by
  have p : PC X op a b (fun σ H Q => wE X a σ H fun v H1 => wE X b σ H1 fun u H2 => ∃ r, OpR X (compareOp op) r ∧ r v u H2 Q) := by
    refine ⟨fun pins s σ H Q I h => ?_⟩
    refine thn ((pE a).run pins s σ H _ I h) fun v s1 ⟨x, H1, I1, r1, q1⟩ => ?_
    refine thn ((pE b).run pins s1 σ H1 _ I1 q1) fun u s2 ⟨y, H2, I2, r2, ⟨r, ho, hr⟩⟩ => ?_
    exact ho pins s2 σ H2 x y v u Q I2 r1 r2 hr
  refine oT (pt_cmp p hm) ?_
  refine h σ G H E w _ fun v x m1 G1 H1 g1 r1 p1 => p1 σ G1 H1 (E.mono g1.g) g1.wd _ fun u y m2 G2 H2 g2 r2 ⟨z, ⟨r, ho, hr⟩, p⟩ => ⟨r, ho, ?_⟩
  exact hr m2 G2 H2 v u g2.wd (ds_mono g2.g r1) r2 _ fun w' G3 H3 g3 r3 => ⟨z, ds_bl r3, q z m2 G3 H3 ((g1.trans g2).trans g3) p⟩
theorem et_cmp {op : CmpOp} {x y : SD} {z : Bool} (ha : EE X a ds x) (hb : EE X b ds y) (hr : CmpD X op x y z) (hm : behindInMarks op b = false := by first | exact nobehind _ (by decide) (by decide) | rfl) : ET X (.Compare a [op] [b] pos) ds z := fun m => wt_cmp (ha.to (hb.to ⟨z, hr, rfl, rfl⟩)) hm
/-- a < b < c -/
theorem we_chain {op op' : CmpOp} {x y z : SD} {k l : Bool} (ha : EE X a ds x) (hb : EE X b ds y) (hc : EE X c ds z) (h1 : CmpD X op x y k) (h2 : CmpD X op' y z l) (hm : lastMarks [op, op'] [b, c] = false) :
    EE X (.Compare a [op, op'] [b, c] pos) ds (B (k && l)) ∧ ET X (.Compare a [op, op'] [b, c] pos) ds (k && l) := by
  obtain ⟨r, ho, hr⟩ := h1
  obtain ⟨r', ho', hr'⟩ := h2
  refine ⟨fun m σ G H E w Q q => oE (pe_chain ho ho' (pE a) (pE b) (pE c) hm) ?_, fun m σ G H E w Q q => oT (pt_chain ho ho' (pE a) (pE b) (pE c) hm) ?_⟩
  · refine ha m σ G H E w _ fun v x' m1 G1 H1 g1 r1 ⟨e1, e2⟩ => ?_
    subst e1 e2
    refine hb m1 σ G1 H1 (E.mono g1.g) g1.wd _ fun u y' m2 G2 H2 g2 r2 ⟨e1, e2⟩ => ?_
    subst e1 e2
    refine hr m2 G2 H2 v u g2.wd (ds_mono g2.g r1) r2 _ fun w' G3 H3 g3 r3 => ⟨k, ds_bl r3, ?_⟩
    cases k with
    | false =>
      rw [if_neg Bool.false_ne_true]
      exact q _ _ _ _ _ ((g1.trans g2).trans g3) (.py (.bl false)) ⟨rfl, rfl⟩
    | true =>
      rw [if_pos rfl]
      refine hc m2 σ G3 H3 (E.mono ((g1.trans g2).trans g3).g) g3.wd _ fun t z' m4 G4 H4 g4 r4 ⟨e1, e2⟩ => ?_
      subst e1 e2
      refine hr' m4 G4 H4 u t g4.wd (ds_mono (g3.trans g4).g r2) r4 _ fun w'' G5 H5 g5 r5 => ?_
      exact q _ _ _ _ _ ((((g1.trans g2).trans g3).trans g4).trans g5) r5 ⟨rfl, rfl⟩
  · refine ha m σ G H E w _ fun v x' m1 G1 H1 g1 r1 ⟨e1, e2⟩ => ?_
    subst e1 e2
    refine hb m1 σ G1 H1 (E.mono g1.g) g1.wd _ fun u y' m2 G2 H2 g2 r2 ⟨e1, e2⟩ => ?_
    subst e1 e2
    refine hr m2 G2 H2 v u g2.wd (ds_mono g2.g r1) r2 _ fun w' G3 H3 g3 r3 => ⟨k, ds_bl r3, ?_⟩
    cases k with
    | false =>
      rw [if_neg Bool.false_ne_true]
      exact ⟨_, rfl, q _ _ _ _ ((g1.trans g2).trans g3) ⟨rfl, rfl⟩⟩
    | true =>
      rw [if_pos rfl]
      refine hc m2 σ G3 H3 (E.mono ((g1.trans g2).trans g3).g) g3.wd _ fun t z' m4 G4 H4 g4 r4 ⟨e1, e2⟩ => ?_
      subst e1 e2
      refine hr' m4 G4 H4 u t g4.wd (ds_mono (g3.trans g4).g r2) r4 _ fun w'' G5 H5 g5 r5 => ?_
      exact ⟨_, ds_bl r5, q _ _ _ _ ((((g1.trans g2).trans g3).trans g4).trans g5) ⟨rfl, rfl⟩⟩
end
end W9
namespace W9
open PySem PySem.Spec PyProof.Rows L2
/-! ### tests: and, or, not -/
def wW (X : Cx) (e : Expr) : TT := fun σ H Q => ∀ whole pins s, Inv X pins σ H s → wpAny (model X.prog X.w) X.A (isTrue e X.env whole) (TP X pins σ Q) X.xe s
theorem pW {X : Cx} (e : Expr) : PW X e (wW X e) := ⟨fun wh pins s σ H Q I h => h wh pins s I⟩
theorem oW {X : Cx} {e : Expr} {t : TT} (p : PW X e t) {σ : L2.St} {H : Hp} {Q : Bool → Hp → Prop} (h : t σ H Q) : wW X e σ H Q := fun wh pins s I => p.run wh pins s σ H Q I h
def EW (X : Cx) (e : Expr) (ds : DE) (b : Bool) : Prop := ∀ m σ G H, EnvD X.K G σ ds → Wd X.K m G H → ∀ Q : Bool → Hp → Prop, (∀ b' m' G' H', Gr X.K m m' G H G' H' → (b' = b ∧ m' = m) → Q b' H') → wW X e σ H Q
section
variable {X : Cx} {ds : DE} {m : MS} {e a b c : Expr} {es rest : List Expr} {pos : Pos}
theorem et_w {k : Bool} (h : EW X e ds k) : ET X e ds k := fun m σ G H E w Q q => oT (pW e).pt (h m σ G H E w Q q)
theorem ew_and1 {k : Bool} (h : ET X a ds k) : EW X (.BoolOp .And [a] pos) ds k := fun m σ G H E w Q q => oW (pw_and1 (pT a)) (h m σ G H E w Q q)
theorem ew_or1 {k : Bool} (h : ET X a ds k) : EW X (.BoolOp .Or [a] pos) ds k := fun m σ G H E w Q q => oW (pw_or1 (pT a)) (h m σ G H E w Q q)
theorem ew_and {k l : Bool} (h : ET X a ds k) (h2 : k = true → EW X (.BoolOp .And (b :: rest) pos) ds l) : EW X (.BoolOp .And (a :: b :: rest) pos) ds (k && l) := fun m σ G H E w Q q => oW (pw_and (pT a) (pW _)) (by
  refine h m σ G H E w _ fun k' m1 G1 H1 g1 ⟨e1, e2⟩ => ?_
  subst e1 e2
  cases k' with
  | true =>
    rw [if_pos rfl]
    exact h2 rfl m1 σ G1 H1 (E.mono g1.g) g1.wd _ fun l' m2 G2 H2 g2 ⟨e1, e2⟩ => q _ _ _ _ (g1.trans g2) ⟨by rw [e1]; rfl, e2⟩
  | false =>
    rw [if_neg Bool.false_ne_true]
    exact q _ _ _ _ g1 ⟨rfl, rfl⟩)
theorem ew_or {k l : Bool} (h : ET X a ds k) (h2 : k = false → EW X (.BoolOp .Or (b :: rest) pos) ds l) : EW X (.BoolOp .Or (a :: b :: rest) pos) ds (k || l) := fun m σ G H E w Q q => oW (pw_or (pT a) (pW _)) (by
  refine h m σ G H E w _ fun k' m1 G1 H1 g1 ⟨e1, e2⟩ => ?_
  subst e1 e2
  cases k' with
  | false =>
    rw [if_neg Bool.false_ne_true]
    exact h2 rfl m1 σ G1 H1 (E.mono g1.g) g1.wd _ fun l' m2 G2 H2 g2 ⟨e1, e2⟩ => q _ _ _ _ (g1.trans g2) ⟨by rw [e1]; rfl, e2⟩
  | true =>
    rw [if_pos rfl]
    exact q _ _ _ _ g1 ⟨rfl, rfl⟩)
theorem et_not {k : Bool} (h : ET X a ds k) : ET X (.UnaryOp .Not a pos) ds (!k) := fun m σ G H E w Q q => oT (pt_not (pT a)) (h m σ G H E w _ fun k' m1 G1 H1 g1 ⟨e1, e2⟩ => q _ _ _ _ g1 ⟨by rw [e1], e2⟩)
theorem wt_not {P : Bool → MS → Prop} (h : WT X a ds m fun k m1 => P (!k) m1) : WT X (.UnaryOp .Not a pos) ds m P := fun σ G H E w Q q => oT (pt_not (pT a)) (h σ G H E w _ fun k' m1 G1 H1 g1 p => q _ _ _ _ g1 p)
theorem wt_val {P : Bool → MS → Prop} (h : WE X e ds m fun d m1 => ∃ k, d = B k ∧ P k m1) (he : ∀ whole, isTrue e X.env whole = (do let v ← whole; standAt e.pos; holding [v] (truthy v)) := by intro _; rfl) : WT X e ds m P := fun σ G H E w Q q =>
  oT (pt_val (pE e) he) (h σ G H E w _ fun v d m1 G1 H1 g1 r1 ⟨k, e1, p⟩ => by subst e1; exact ⟨k, ds_bl r1, q _ _ _ _ g1 p⟩)
theorem et_val {k : Bool} (h : EE X e ds (B k)) (he : ∀ whole, isTrue e X.env whole = (do let v ← whole; standAt e.pos; holding [v] (truthy v)) := by intro _; rfl) : ET X e ds k := fun m => wt_val (h.to ⟨k, rfl, rfl, rfl⟩) he
/-! ### the same as values -/
theorem ee_one {op} {d : SD} (h : EE X a ds d) : EE X (.BoolOp op [a] pos) ds d := fun m σ G H E w Q q => oE (pe_one (pE a)) (h m σ G H E w Q q)
theorem ee_and {k l : Bool} (h : EE X a ds (B k)) (h2 : k = true → EE X (.BoolOp .And (b :: rest) pos) ds (B l)) : EE X (.BoolOp .And (a :: b :: rest) pos) ds (B (k && l)) := fun m σ G H E w Q q => oE (pe_and (pE a) (pE _)) (by
  refine h m σ G H E w _ fun v d m1 G1 H1 g1 r1 ⟨e1, e2⟩ => ?_
  subst e1 e2
  refine ⟨k, ds_bl r1, ?_⟩
  cases k with
  | true =>
    rw [if_pos rfl]
    exact h2 rfl m1 σ G1 H1 (E.mono g1.g) g1.wd _ fun l' d' m2 G2 H2 g2 r2 ⟨e1, e2⟩ => q _ _ _ _ _ (g1.trans g2) r2 ⟨by rw [e1]; rfl, e2⟩
  | false =>
    rw [if_neg Bool.false_ne_true]
    exact q _ _ _ _ _ g1 (.py (.bl false)) ⟨rfl, rfl⟩)
theorem ee_not {k : Bool} (h : EE X a ds (B k)) : EE X (.UnaryOp .Not a pos) ds (B (!k)) := fun m σ G H E w Q q => oE (pe_not (pE a)) (h m σ G H E w _ fun v d m1 G1 H1 g1 r1 ⟨e1, e2⟩ => by
  subst e1
  exact ⟨k, ds_bl r1, q _ _ _ _ _ g1 (.py (.bl _)) ⟨rfl, e2⟩⟩)
/-! ### a if t else b -/
theorem we_if {P : SD → MS → Prop} (h : WT X c ds m fun k m1 => if k = true then WE X a ds m1 P else WE X b ds m1 P) : WE X (.IfExp c a b pos) ds m P := fun σ G H E w Q q => oE (pe_ifExp (pT c) (pE a) (pE b)) (by
  refine h σ G H E w _ fun k m1 G1 H1 g1 p => ?_
  cases k with
  | true =>
    rw [if_pos rfl] at p ⊢
    exact p σ G1 H1 (E.mono g1.g) g1.wd _ fun v d m2 G2 H2 g2 => q v d m2 G2 H2 (g1.trans g2)
  | false =>
    rw [if_neg Bool.false_ne_true] at p ⊢
    exact p σ G1 H1 (E.mono g1.g) g1.wd _ fun v d m2 G2 H2 g2 => q v d m2 G2 H2 (g1.trans g2))
theorem ee_if {k : Bool} {d : SD} (h : ET X c ds k) (h1 : k = true → EE X a ds d) (h2 : k = false → EE X b ds d) : EE X (.IfExp c a b pos) ds d := fun m => we_if (h.to (by
  cases k with
  | true => rw [if_pos rfl]; exact h1 rfl m
  | false => rw [if_neg Bool.false_ne_true]; exact h2 rfl m))
/-! ### arguments, displays -/
theorem wa_nil {P : List SD → MS → Prop} (p : P [] m) : WA X [] ds m P := fun σ G H E w Q q => oA pa_nil (q _ _ _ _ _ (.refl w) .nil p)
theorem wa_cons {P : List SD → MS → Prop} (h : WE X e ds m fun d m1 => WA X es ds m1 fun xs m2 => P (d :: xs) m2) (hs : starEach (e :: es) X.env = (false, eval e X.env) :: starEach es X.env := by rfl) : WA X (e :: es) ds m P := fun σ G H E w Q q => oA (pa_cons (pE e) (pA es) hs) (by
  refine h σ G H E w _ fun v d m1 G1 H1 g1 r1 p => ?_
  exact p σ G1 H1 (E.mono g1.g) g1.wd _ fun vs xs m2 G2 H2 g2 r2 p => q _ _ _ _ _ (g1.trans g2) (.cons (ds_mono g2.g r1) r2) p)
theorem ea_nil : EA X [] ds [] := fun m => wa_nil ⟨rfl, rfl⟩
theorem ea_cons {d : SD} {xs : List SD} (h : EE X e ds d) (h2 : EA X es ds xs) (hs : starEach (e :: es) X.env = (false, eval e X.env) :: starEach es X.env := by rfl) : EA X (e :: es) ds (d :: xs) := fun m => wa_cons (h.to (h2.to ⟨rfl, rfl⟩)) hs
/-- plain data -/
def EAp (X : Cx) (es : List Expr) (ds : DE) (l : List PyData) : Prop := EA X es ds (l.map .py)
theorem eap_nil : EAp X [] ds [] := ea_nil
theorem eap_cons {d : PyData} {l : List PyData} (h : EE X e ds (.py d)) (h2 : EAp X es ds l) (hs : starEach (e :: es) X.env = (false, eval e X.env) :: starEach es X.env := by rfl) : EAp X (e :: es) ds (d :: l) := ea_cons h h2 hs
theorem dss_py {K : PySem.W.Frag} {G : Hp} : ∀ {l : List PyData} {vs : List V}, DSs K G vs (l.map .py) → DpAll K G vs l
  | [], _, h => by cases h; exact .nil
  | d :: l, _, h => by
    cases h with
    | cons h1 h2 => cases h1 with
      | py h1 => exact .cons h1 (dss_py h2)
theorem py_dss {K : PySem.W.Frag} {G : Hp} : ∀ {l : List PyData} {vs : List V}, DpAll K G vs l → DSs K G vs (l.map .py)
  | [], _, h => by cases h; exact .nil
  | d :: l, _, h => by
    cases h with
    | cons h1 h2 => exact .cons (.py h1) (py_dss h2)
theorem we_tup {P : SD → MS → Prop} {k} (h : WA X es ds m fun xs m1 => ∃ l, xs = l.map .py ∧ l.length ≤ 1000000 ∧ P (Tp l) m1) : WE X (.Tuple es k pos) ds m P := fun σ G H E w Q q => oE (pe_tup (pA es)) (by
  refine h σ G H E w _ fun vs xs m1 G1 H1 g1 r1 ⟨l, e1, hl, p⟩ => ?_
  subst e1
  have r2 := dss_py r1
  refine ⟨by rw [dpa_length r2]; exact Nat.le_trans hl (by decide), fun a ha => ?_⟩
  have g2 := Gr.new (o := .tup vs) g1.wd ha
  exact q _ _ _ _ _ (g1.trans g2) (.py (.tup upd_same (dpa_mono g2.g r2))) p)
theorem ee_tup {l : List PyData} {k} (h : EAp X es ds l) (hl : l.length ≤ 1000000 := by first | decide | simp) : EE X (.Tuple es k pos) ds (Tp l) := fun m => we_tup ((h m).mono fun xs m1 ⟨e1, e2⟩ => ⟨l, e1, hl, rfl, e2⟩)
/-- a list of data -/
theorem we_lst {P : SD → MS → Prop} (h : WA X es ds m fun xs m1 => ∃ l, xs = l.map .py ∧ l.length ≤ 1000000 ∧ P (Ls l) m1) : WE X (.List es pos) ds m P := fun σ G H E w Q q => oE (pe_lst (pA es)) (by
  refine h σ G H E w _ fun vs xs m1 G1 H1 g1 r1 ⟨l, e1, hl, p⟩ => ?_
  subst e1
  have r2 := dss_py r1
  refine ⟨by rw [dpa_length r2]; exact Nat.le_trans hl (by decide), fun a ha => ?_⟩
  have g2 := Gr.new (o := .lst vs) g1.wd ha
  exact q _ _ _ _ _ (g1.trans g2) (.py (.lst (SqL.of upd_same) (dpa_mono g2.g r2))) p)
theorem ee_lst {l : List PyData} (h : EAp X es ds l) (hl : l.length ≤ 1000000 := by first | decide | simp) : EE X (.List es pos) ds (Ls l) := fun m => we_lst ((h m).mono fun xs m1 ⟨e1, e2⟩ => ⟨l, e1, hl, rfl, e2⟩)
/-! ### subscripts, slices -/
theorem we_sub {P : SD → MS → Prop} (h : WE X a ds m fun x m1 => WE X b ds m1 fun y m2 => ∃ z, SubD X m2 x y z ∧ P z m2) (hs : PlainIx b := by exact fun _ _ => rfl) : WE X (.Subscript a b pos) ds m P := fun σ G H E w Q q => by
  intro pins s I
  refine Subscript_ (binT (pE a) (pE b) (R := fun v u H2 => ∃ r, IxR X r ∧ r v u H2 Q) I ?_ fun v u s2 x y H2 I2 rx ry ⟨r, ho, hr⟩ => ho a b pins s2 σ H2 x y v u Q I2 rx ry hr (hs _ _))
  refine h σ G H E w _ fun v x m1 G1 H1 g1 r1 p1 => p1 σ G1 H1 (E.mono g1.g) g1.wd _ fun u y m2 G2 H2 g2 r2 ⟨z, ⟨r, ho, hr⟩, p⟩ => ⟨r, ho, ?_⟩
  exact hr G2 H2 v u g2.wd (ds_mono g2.g r1) r2 Q fun w' G3 H3 g3 r3 => q w' z m2 G3 H3 ((g1.trans g2).trans g3) r3 p
theorem ee_sub {x y z : SD} (ha : EE X a ds x) (hb : EE X b ds y) (hr : ∀ m, SubD X m x y z) (hs : PlainIx b := by exact fun _ _ => rfl) : EE X (.Subscript a b pos) ds z := fun m => we_sub (ha.to (hb.to ⟨z, hr m, rfl, rfl⟩)) hs
def EO (X : Cx) (e : Option Expr) (ds : DE) (o : Option Int) : Prop := ∀ m, WO X e ds m fun o' m' => o' = o ∧ m' = m
theorem eo_none : EO X none ds none := fun m σ G H E w Q q pins s I => po_none.run pins s σ H Q I (q _ _ _ _ (.refl w) ⟨rfl, rfl⟩)
theorem eo_some {i : Int} (h : EE X e ds (PySem.PyData.int i |> SD.py)) : EO X (some e) ds (some i) := fun m σ G H E w Q q pins s J => (po_some (pE e)).run pins s σ H Q J (h m σ G H E w _ fun v d m1 G1 H1 g1 r1 ⟨e1, e2⟩ => by
  subst e1
  exact ⟨i, ds_int r1, q _ _ _ _ g1 ⟨rfl, e2⟩⟩)
def SlD (X : Cx) (m : MS) (x : SD) (lo hi : Option Int) (z : SD) : Prop := ∃ r, SlR X r ∧ ∀ G H v, Wd X.K m G H → DS X.K G v x → ∀ Q : VK, (∀ w G' H', Gr X.K m m G H G' H' → DS X.K G' w z → Q w H') → r v lo hi H Q
theorem we_slice {lo hi : Option Expr} {l u : Option Int} {P : SD → MS → Prop} {p2 : Pos} (h : WE X e ds m fun x m1 => ∃ z, SlD X m1 x l u z ∧ P z m1) (h1 : EO X lo ds l) (h2 : EO X hi ds u) : WE X (.Subscript e (.Slice lo hi none p2) pos) ds m P := fun σ G H E w Q q => by
  have p : PE X (.Subscript e (.Slice lo hi none p2) pos) (tSl (fun v l u H Q => ∃ r, SlR X r ∧ r v l u H Q) (wE X e) (wP X lo) (wP X hi)) :=
      pe_slice (fun pins s σ H x v vl vu lo hi sl Q I rx hs pl pu ⟨r, hr, q⟩ => hr pins s σ H x v vl vu lo hi sl Q I rx hs pl pu q) (pE e) (pO lo) (pO hi)
  refine oE p ?_
  refine h σ G H E w _ fun v x m1 G1 H1 g1 r1 ⟨z, ⟨r, hr, hz⟩, p⟩ => ?_
  refine h1 m1 σ G1 H1 (E.mono g1.g) g1.wd _ fun l' m2 G2 H2 g2 ⟨e1, e2⟩ => ?_
  subst e1 e2
  refine h2 m2 σ G2 H2 (E.mono (g1.trans g2).g) g2.wd _ fun u' m3 G3 H3 g3 ⟨e1, e2⟩ => ?_
  subst e1 e2
  exact ⟨r, hr, hz G3 H3 v g3.wd (ds_mono (g2.trans g3).g r1) Q fun w' G4 H4 g4 r4 => q w' z _ G4 H4 (((g1.trans g2).trans g3).trans g4) r4 p⟩
theorem ee_slice {lo hi : Option Expr} {l u : Option Int} {x z : SD} {p2 : Pos} (h : EE X e ds x) (h1 : EO X lo ds l) (h2 : EO X hi ds u) (hz : ∀ m, SlD X m x l u z) : EE X (.Subscript e (.Slice lo hi none p2) pos) ds z := fun m => we_slice (h.to ⟨z, hz m, rfl, rfl⟩) h1 h2
/-! ### calls of what is built in -/
def CaD (X : Cx) (f : Value) (m : MS) (xs : List SD) (z : SD) : Prop := ∃ r, CallR X f r ∧ ∀ G H vs, Wd X.K m G H → DSs X.K G vs xs → ∀ Q : VK, (∀ w G' H', Gr X.K m m G H G' H' → DS X.K G' w z → Q w H') → r vs H Q
theorem we_callB {x : Str} {id : String} {p : Pos} {P : SD → MS → Prop} (h : WA X (e :: es) ds m fun xs m1 => ∃ z, CaD X (.builtin id) m1 xs z ∧ P z m1) (hm : X.mg x = none) (hv : bootBuiltins x = some (.builtin id)) (hg : Gl X x := by rfl) (hn : x ≠ "__name__" := by decide) (hdb : (x == ("__debug__" : Str)) = false := by decide)
    (he : starEach (e :: es) X.env = (false, eval e X.env) :: starEach es X.env := by rfl) (hpl : (backTo pos (starEach es X.env)).any (·.1) = false := by rfl) : WE X (.Call (.Name x p) (e :: es) [] pos) ds m P := fun σ G H E w Q q => by
  have c : CallR X (.builtin id) (fun vs H Q => ∃ r, CallR X (.builtin id) r ∧ r vs H Q) := fun pins s σ H xs us Q I r ⟨r', h1, h2⟩ => h1 pins s σ H xs us Q I r h2
  refine oE (pe_callB c hg hm hv (pA (e :: es)) hn hdb he hpl) (h σ G H E w _ fun vs xs m1 G1 H1 g1 r1 ⟨z, ⟨r, hr, hz⟩, p⟩ => ⟨r, hr, ?_⟩)
  exact hz G1 H1 vs g1.wd r1 Q fun w' G4 H4 g4 r4 => q w' z _ G4 H4 (g1.trans g4) r4 p
theorem we_callTy {x : Str} {id : String} {p : Pos} {P : SD → MS → Prop} (h : WA X (e :: es) ds m fun xs m1 => ∃ z, CaD X (.type id) m1 xs z ∧ P z m1) (hm : X.mg x = none) (hv : bootBuiltins x = some (.type id)) (hg : Gl X x := by rfl) (hn : x ≠ "__name__" := by decide) (hdb : (x == ("__debug__" : Str)) = false := by decide)
    (he : starEach (e :: es) X.env = (false, eval e X.env) :: starEach es X.env := by rfl) (hpl : (backTo pos (starEach es X.env)).any (·.1) = false := by rfl) : WE X (.Call (.Name x p) (e :: es) [] pos) ds m P := fun σ G H E w Q q => by
  have c : CallR X (.type id) (fun vs H Q => ∃ r, CallR X (.type id) r ∧ r vs H Q) := fun pins s σ H xs us Q I r ⟨r', h1, h2⟩ => h1 pins s σ H xs us Q I r h2
  refine oE (pe_callTy c hg hm hv (pA (e :: es)) hn hdb he hpl) (h σ G H E w _ fun vs xs m1 G1 H1 g1 r1 ⟨z, ⟨r, hr, hz⟩, p⟩ => ⟨r, hr, ?_⟩)
  exact hz G1 H1 vs g1.wd r1 Q fun w' G4 H4 g4 r4 => q w' z _ G4 H4 (g1.trans g4) r4 p
theorem ee_callB {x : Str} {id : String} {p : Pos} {xs : List SD} {z : SD} (h : EA X (e :: es) ds xs) (hc : ∀ m, CaD X (.builtin id) m xs z) (hm : X.mg x = none) (hv : bootBuiltins x = some (.builtin id)) (hg : Gl X x := by rfl) (hn : x ≠ "__name__" := by decide) (hdb : (x == ("__debug__" : Str)) = false := by decide)
    (he : starEach (e :: es) X.env = (false, eval e X.env) :: starEach es X.env := by rfl) (hpl : (backTo pos (starEach es X.env)).any (·.1) = false := by rfl) : EE X (.Call (.Name x p) (e :: es) [] pos) ds z := fun m => we_callB (h.to ⟨z, hc m, rfl, rfl⟩) hm hv hg hn hdb he hpl
theorem ee_callTy {x : Str} {id : String} {p : Pos} {xs : List SD} {z : SD} (h : EA X (e :: es) ds xs) (hc : ∀ m, CaD X (.type id) m xs z) (hm : X.mg x = none) (hv : bootBuiltins x = some (.type id)) (hg : Gl X x := by rfl) (hn : x ≠ "__name__" := by decide) (hdb : (x == ("__debug__" : Str)) = false := by decide)
    (he : starEach (e :: es) X.env = (false, eval e X.env) :: starEach es X.env := by rfl) (hpl : (backTo pos (starEach es X.env)).any (·.1) = false := by rfl) : EE X (.Call (.Name x p) (e :: es) [] pos) ds z := fun m => we_callTy (h.to ⟨z, hc m, rfl, rfl⟩) hm hv hg hn hdb he hpl
/-- a method of a built-in type -/
def MtD (X : Cx) (T id : String) (m : MS) (x : SD) (xs : List SD) (z : SD) : Prop := (∀ G H v, Wd X.K m G H → DS X.K G v x → tyV X.K T v H) ∧ ∃ r, MtR X id r ∧ ∀ G H v vs, Wd X.K m G H → DS X.K G v x → DSs X.K G vs xs → ∀ Q : VK, (∀ w G' H', Gr X.K m m G H G' H' → DS X.K G' w z → Q w H') → r v vs H Q
theorem we_meth {o : Expr} {name : Str} {apos cpos : Pos} {T id : String} {x : SD} {P : SD → MS → Prop} (pa : PlainAttrs T) (slot : Slot T name id) (hty : typeOf (.builtin id) = pure (.type "method_descriptor")) (ho : EE X o ds x) (ht : ∀ m G H v, Wd X.K m G H → DS X.K G v x → tyV X.K T v H)
    (ha : WA X (e :: es) ds m fun xs m1 => ∃ z, MtD X T id m1 x xs z ∧ P z m1)
    (hbase : attributeBase o name X.env (eval o X.env) = eval o X.env := by rfl)
    (hfew : ((backTo cpos (starEach (e :: es) X.env)).all (fun x => !x.1) && (backToKw cpos (keywordEach [] X.env)).all (fun x => x.1.isSome)
      && decide ((e :: es).length + ([] : List Keyword).length + (if ([] : List Keyword).isEmpty then 0 else 1) < 30)) = true := by rfl)
    (hline : (apos.endLine == cpos.line) = true := by rfl) (hs : starEach (e :: es) X.env = (false, eval e X.env) :: starEach es X.env := by rfl) (hplain : (backTo cpos (starEach es X.env)).any (·.1) = false := by rfl) : WE X (.Call (.Attribute o name apos) (e :: es) [] cpos) ds m P := fun σ G H E w Q q => by
  have c : MtR X id (fun v vs H Q => ∃ r, MtR X id r ∧ r v vs H Q) := fun pins s σ H x xs v us Q I rx rs ⟨r, h1, h2⟩ => h1 pins s σ H x xs v us Q I rx rs h2
  refine oE (pe_bm pa slot hty c (pE o) (pA (e :: es)) hbase hfew hline hs hplain) (ho m σ G H E w _ fun v d m1 G1 H1 g1 r1 ⟨e1, e2⟩ => ?_)
  subst e1 e2
  refine ⟨ht _ _ _ _ g1.wd r1, ?_⟩
  refine ha σ G1 H1 (E.mono g1.g) g1.wd _ fun vs xs m2 G2 H2 g2 r2 ⟨z, ⟨ht, r, hr, hz⟩, p⟩ => ⟨r, hr, ?_⟩
  exact hz G2 H2 v vs g2.wd (ds_mono g2.g r1) r2 Q fun w' G4 H4 g4 r4 => q w' z _ G4 H4 ((g1.trans g2).trans g4) r4 p
theorem ee_meth {o : Expr} {name : Str} {apos cpos : Pos} {T id : String} {x : SD} {xs : List SD} {z : SD} (pa : PlainAttrs T) (slot : Slot T name id) (hty : typeOf (.builtin id) = pure (.type "method_descriptor")) (ho : EE X o ds x) (ha : EA X (e :: es) ds xs) (hz : ∀ m, MtD X T id m x xs z)
    (hbase : attributeBase o name X.env (eval o X.env) = eval o X.env := by rfl)
    (hfew : ((backTo cpos (starEach (e :: es) X.env)).all (fun x => !x.1) && (backToKw cpos (keywordEach [] X.env)).all (fun x => x.1.isSome)
      && decide ((e :: es).length + ([] : List Keyword).length + (if ([] : List Keyword).isEmpty then 0 else 1) < 30)) = true := by rfl)
    (hline : (apos.endLine == cpos.line) = true := by rfl) (hs : starEach (e :: es) X.env = (false, eval e X.env) :: starEach es X.env := by rfl) (hplain : (backTo cpos (starEach es X.env)).any (·.1) = false := by rfl) : EE X (.Call (.Attribute o name apos) (e :: es) [] cpos) ds z := fun m =>
  we_meth pa slot hty ho (fun m => (hz m).1) (ha.to ⟨z, hz m, rfl, rfl⟩) hbase hfew hline hs hplain
theorem ee_meth0 {o : Expr} {name : Str} {apos cpos : Pos} {T id : String} {x : SD} {z : SD} (pa : PlainAttrs T) (slot : Slot T name id) (hty : typeOf (.builtin id) = pure (.type "method_descriptor")) (ho : EE X o ds x) (hz : ∀ m, MtD X T id m x [] z)
    (hbase : attributeBase o name X.env (eval o X.env) = eval o X.env := by rfl) (hline : (apos.endLine == cpos.line) = true := by rfl) : EE X (.Call (.Attribute o name apos) [] [] cpos) ds z := fun m σ G H E w Q q => by
  have c : MtR X id (fun v vs H Q => ∃ r, MtR X id r ∧ r v vs H Q) := fun pins s σ H x xs v us Q I rx rs ⟨r, h1, h2⟩ => h1 pins s σ H x xs v us Q I rx rs h2
  refine oE (pe_bm0 pa slot hty c (pE o) hbase hline) (ho m σ G H E w _ fun v d m1 G1 H1 g1 r1 ⟨e1, e2⟩ => ?_)
  subst e1 e2
  obtain ⟨ht, r, hr, hz'⟩ := hz m1
  refine ⟨ht _ _ _ g1.wd r1, r, hr, ?_⟩
  exact hz' G1 H1 v [] g1.wd r1 .nil Q fun w' G4 H4 g4 r4 => q w' z _ G4 H4 (g1.trans g4) r4 ⟨rfl, rfl⟩
/-! ### calls of the text's own defs -/
abbrev FT := List SD → MS → (SD → MS → Prop) → Prop
def SpD (K : PySem.W.Frag) (F : FT) : Sp := fun vs H Q _ => ∃ G m ds P, Wd K m G H ∧ DSs K G vs ds ∧ F ds m P ∧ ∀ v d m' G' H', Gr K m m' G H G' H' → DS K G' v d → P d m' → Q v H'
/-- a def that is a function of plain data -/
def pureF (R : List SD → SD → Prop) : FT := fun ds m P => ∃ d, R ds d ∧ P d m
end
end W9
namespace W9
open PySem PySem.Spec PyProof.Rows L2
/-! ### slots -/
section
variable {K : PySem.W.Frag} {G G' : Hp} {σ : L2.St} {ds : DE}
theorem EnvD.unset (E : EnvD K G σ ds) (i : Nat) : EnvD K G (σ.set i none) (ds.set i none) := by
  refine ⟨by rw [List.length_set, List.length_set]; exact E.1, fun j e he => ?_⟩
  by_cases hj : i = j
  · subst hj
    by_cases hl : i < ds.length
    · rw [List.getElem?_set_self hl] at he; cases he
    · rw [List.getElem?_eq_none (by rw [List.length_set]; omega)] at he; cases he
  · rw [List.getElem?_set_ne hj] at he ⊢
    exact E.2 j e he
theorem EnvD.retype (E : EnvD K G σ ds) {i : Nat} {v : V} {d : SD} (hv : σ[i]? = some (some v)) (h : DS K G v d) : EnvD K G σ (ds.set i (some d)) := by
  have z := E.set (i := i) h
  have e : σ.set i (some v) = σ := by
    refine List.ext_getElem? fun j => ?_
    by_cases hj : i = j
    · subst hj
      rw [List.getElem?_set_self (List.getElem?_eq_some_iff.mp hv).1, hv]
    · rw [List.getElem?_set_ne hj]
  rw [e] at z
  exact z
def wipeD (ds : DE) : List Nat → DE
  | [] => ds
  | v :: vs => (wipeD ds vs).set v none
theorem EnvD.wipe (E : EnvD K G σ ds) : ∀ vs : List Nat, EnvD K G (L2.wipe σ vs) (wipeD ds vs)
  | [] => E
  | v :: vs => (EnvD.wipe E vs).unset v
end
theorem wipe_get (σ : L2.St) : ∀ (vs : List Nat) (i : Nat), i ∉ vs → (L2.wipe σ vs)[i]? = σ[i]?
  | [], i, _ => rfl
  | v :: vs, i, h => by
    have h1 : v ≠ i := fun e => h (by rw [e]; exact List.mem_cons_self)
    show ((L2.wipe σ vs).set v none)[i]? = _
    rw [List.getElem?_set_ne h1]
    exact wipe_get σ vs i fun z => h (List.mem_cons_of_mem _ z)
theorem wipe_in (σ : L2.St) : ∀ (vs : List Nat) (i : Nat), i ∈ vs → (L2.wipe σ vs)[i]? = if i < σ.length then some none else none
  | v :: vs, i, h => by
    show ((L2.wipe σ vs).set v none)[i]? = _
    by_cases e : v = i
    · subst e
      by_cases hl : v < σ.length
      · rw [if_pos hl, List.getElem?_set_self (by rw [L2.wipe_length]; exact hl)]
      · rw [if_neg hl, List.getElem?_eq_none (by rw [List.length_set, L2.wipe_length]; omega)]
    · rw [List.getElem?_set_ne e]
      rcases List.mem_cons.mp h with z | z
      · exact absurd z.symm e
      · exact wipe_in σ vs i z
theorem wipe_same {σ σ2 : L2.St} {vs : List Nat} (hl : σ2.length = σ.length) (h : ∀ i, i ∉ vs → σ2[i]? = (L2.wipe σ vs)[i]?) : L2.wipe σ2 vs = L2.wipe σ vs := by
  refine List.ext_getElem? fun i => ?_
  by_cases hi : i ∈ vs
  · rw [wipe_in _ _ _ hi, wipe_in _ _ _ hi, hl]
  · rw [wipe_get _ _ _ hi, h i hi]
section
variable {X : Cx} {ds : DE} {m : MS} {e a b c : Expr} {es rest : List Expr} {pos : Pos}
/-! ### targets -/
theorem wg_name {i : Nat} {x : Str} {d : SD} {P : DE → MS → Prop} (p : P (ds.set i (some d)) m) (hN : X.N.Nodup) (hi : X.N[i]? = some x := by rfl) (hx : Loc X.env.scope x := by first | exact Or.inl rfl | exact Or.inr rfl)
    (hf : X.fn x = true ∨ X.env.scope.names.lookup x = some .local := by first | exact .inl rfl | exact .inr rfl | assumption) : WG X (.Name x pos) [i] d ds m P := fun σ G H v E w r Q q =>
  oG (pg_name hN hi hx hf) (q _ _ _ _ _ (.refl w) (E.set r) ⟨fun j hj => by rw [List.getElem?_set_ne (fun z => hj (by rw [z]; exact List.mem_cons_self))], List.length_set ..⟩ p)
theorem wgs_nil {P : DE → MS → Prop} (p : P ds m) : WGs X [] [] [] ds m P := fun σ G H vs E w r Q q => oG' (by cases r; exact ⟨rfl, q _ _ _ _ _ (.refl w) E ⟨fun _ _ => rfl, rfl⟩ p⟩)
  where oG' {vs : List V} {σ : L2.St} {H : Hp} {Q : L2.St → Hp → Prop} (h : gNil vs σ H Q) : wGs X [] vs σ H Q := fun pins s u I r => pgs_nil.run pins s σ H vs u Q I r h
theorem wgs_cons {tg : Expr} {tgs : List Expr} {js ks : List Nat} {d : SD} {xs : List SD} {P : DE → MS → Prop} (h : WG X tg js d ds m fun ds1 m1 => WGs X tgs ks xs ds1 m1 P)
    (hs : (assignEach (tg :: tgs) X.env).map (·.2) = assign tg X.env :: (assignEach tgs X.env).map (·.2) := by rfl) : WGs X (tg :: tgs) (js ++ ks) (d :: xs) ds m P := fun σ G H vs E w r Q q => by
  intro pins s us I ru
  cases r with
  | cons r1 r2 =>
    refine (pgs_cons (pG tg) (pGs tgs) hs).run pins s σ H _ us Q I ru ⟨_, _, rfl, ?_⟩
    refine h σ G H _ E w r1 _ fun σ1 ds1 m1 G1 H1 g1 E1 k1 p1 => ?_
    exact p1 σ1 G1 H1 _ E1 g1.wd (dss_mono g1.g r2) Q fun σ2 ds2 m2 G2 H2 g2 E2 k2 p2 => q σ2 ds2 m2 G2 H2 (g1.trans g2) E2 ⟨fun i hi => (k2.1 i fun z => hi (List.mem_append_right _ z)).trans (k1.1 i fun z => hi (List.mem_append_left _ z)), k2.2.trans k1.2⟩ p2
theorem wg_tup {tgs : List Expr} {js : List Nat} {l : List PyData} {k : Nat} {P : DE → MS → Prop} (h : WGs X tgs js (l.map .py) ds m P) (hc : X.calm = true := by rfl)
    (hn : (assignEach tgs X.env).length = l.length := by rfl) (hst : (assignEach tgs X.env).findIdx? (·.1) = none := by rfl) : WG X (.Tuple tgs k pos) js (Tp l) ds m P := fun σ G H v E w r Q q => by
  obtain ⟨a, xs, rfl, h1, h2⟩ := ds_tup r
  exact oG (pg_tup hc (pGs tgs) rfl hst) ⟨a, xs, rfl, ex_t w.w h1, by rw [hn, dpa_length h2], h σ G H xs E w (py_dss h2) Q q⟩
/-! ### statements -/
theorem wss_nil {E : ED} (p : E.nx ds m) : WSs X [] ds m E := fun σ G H e w D k => oSs pss_nil (k.nx _ _ _ _ _ (.refl w) e p)
theorem wss_cons {st : Stmt} {sts : List Stmt} {E : ED} (h : WS X st ds m { E with nx := fun ds1 m1 => WSs X sts ds1 m1 E }) : WSs X (st :: sts) ds m E := fun σ G H e w D k => oSs (pss_cons (pS st) (pSs sts))
  (h σ G H e w { D with nx := wSs X sts D } ⟨fun σ' ds' m' G' H' g e' p => p σ' G' H' e' g.wd D (k.after g), k.rt, k.bk, k.ct⟩)
theorem wss_one {st : Stmt} {E : ED} (h : WS X st ds m E) : WSs X [st] ds m E := fun σ G H e w D k => oSs (pss_one (pS st)) (h σ G H e w D k)
theorem ws_asg {tg : Expr} {js : List Nat} {E : ED} (h : WE X e ds m fun d m1 => WG X tg js d ds m1 E.nx) (hs : swapsWithSole [tg] e pos.line X.env = pure false := by rfl) (hw : swappedStores [tg] e X.env = pure none := by rfl)
    (h1 : (assignEach [tg] X.env).map (·.2) = [assign tg X.env] := by rfl) : WS X (.Assign [tg] e pos) ds m E := fun σ G H e0 w D k => oS (ps_asg (pE e) (pG tg) hs hw h1)
  (h σ G H e0 w _ fun v d m1 G1 H1 g1 r1 p => p σ G1 H1 v (e0.mono g1.g) g1.wd r1 _ fun σ' ds' m' G' H' g' e' _ q => k.nx _ _ _ _ _ (g1.trans g') e' q)
theorem ws_set {i : Nat} {x : Str} {pos' : Pos} {E : ED} (hN : X.N.Nodup) (h : WE X e ds m fun d m1 => E.nx (ds.set i (some d)) m1) (hi : X.N[i]? = some x := by rfl) (hx : Loc X.env.scope x := by first | exact Or.inl rfl | exact Or.inr rfl)
    (hs : swapsWith e (some (.Name x pos')) pos.line X.env = pure false := by rfl) (hf : X.fn x = true ∨ X.env.scope.names.lookup x = some .local := by first | exact .inl rfl | exact .inr rfl | assumption) : WS X (.Assign [.Name x pos'] e pos) ds m E := fun σ G H e0 w D k =>
  oS (ps_set hN hi hx (pE e) hs hf) (h σ G H e0 w _ fun v d m1 G1 H1 g1 r1 p => k.nx _ _ _ _ _ g1 ((e0.mono g1.g).set r1) p)
theorem ws_par {i j : Nat} {x y : Str} {px py pt : Pos} {kt k2 pt2} {E : ED} (hN : X.N.Nodup) (h : WA X [a, b] ds m fun xs m1 => ∃ d d2, xs = [d, d2] ∧ E.nx ((ds.set i (some d)).set j (some d2)) m1) (hi : X.N[i]? = some x := by rfl) (hj : X.N[j]? = some y := by rfl) (hij : i ≠ j := by decide)
    (hx : X.env.scope.names.lookup x = some .local := by rfl) (hy : X.env.scope.names.lookup y = some .local := by rfl) (hc : X.calm = true := by rfl)
    (hw : swappedStores [.Tuple [.Name x px, .Name y py] kt pt] (.Tuple [a, b] k2 pt2) X.env = pure (some [x, y]) := by rfl)
    (hs : swapsWithSole [.Tuple [.Name x px, .Name y py] kt pt] (.Tuple [a, b] k2 pt2) pos.line X.env = pure false := by rfl) :
    WS X (.Assign [.Tuple [.Name x px, .Name y py] kt pt] (.Tuple [a, b] k2 pt2) pos) ds m E := fun σ G H e0 w D k => oS (ps_par hc hN hi hj hij hx hy (pA [a, b]) hw hs)
  (h σ G H e0 w _ fun vs xs m1 G1 H1 g1 r1 ⟨d, d2, e1, p⟩ => by
    subst e1
    cases r1 with
    | cons r1 r2 => cases r2 with
      | cons r2 r3 =>
        cases r3
        exact ⟨_, _, rfl, k.nx _ _ _ _ _ g1 (((e0.mono g1.g).set r1).set r2) p⟩)
theorem ws_ret {E : ED} (h : WE X e ds m E.rt) : WS X (.Return (some e) pos) ds m E := fun σ G H e0 w D k => oS (ps_ret (pE e)) (h σ G H e0 w _ fun v d m1 G1 H1 g1 r1 p => k.rt _ _ _ _ _ g1 r1 p)
theorem ws_if {t f : List Stmt} {E : ED} (h : WT X c ds m fun k m1 => if k = true then WSs X t ds m1 E else WSs X f ds m1 E) : WS X (.If c t f pos) ds m E := fun σ G H e0 w D k => oS (ps_if (pT c) (pSs t) (pSs f)) (by
  refine h σ G H e0 w _ fun kk m1 G1 H1 g1 p => ?_
  cases kk with
  | true =>
    rw [if_pos rfl] at p ⊢
    exact p σ G1 H1 (e0.mono g1.g) g1.wd D (k.after g1)
  | false =>
    rw [if_neg Bool.false_ne_true] at p ⊢
    exact p σ G1 H1 (e0.mono g1.g) g1.wd D (k.after g1))
theorem ws_ife {t f : List Stmt} {k : Bool} {E : ED} (h : ET X c ds k) (h1 : k = true → WSs X t ds m E) (h2 : k = false → WSs X f ds m E) : WS X (.If c t f pos) ds m E := ws_if (h.to (by
  cases k with
  | true => rw [if_pos rfl]; exact h1 rfl
  | false => rw [if_neg Bool.false_ne_true]; exact h2 rfl))
theorem ws_expr {E : ED} (h : WE X e ds m fun _ m1 => E.nx ds m1) (hs : swapsWith e none pos.line X.env = pure false := by rfl) : WS X (.Expr e pos) ds m E := fun σ G H e0 w D k => oS (ps_expr (pE e) hs) (h σ G H e0 w _ fun v d m1 G1 H1 g1 r1 p => k.nx _ _ _ _ _ g1 (e0.mono g1.g) p)
/-- what is owned: an item, a store, an append -/
theorem own_get {K : PySem.W.Frag} {G H : Hp} {p : Addr} {l : List PyData} (w : Wd K m G H) (h : (p, OV.dl l) ∈ m) : ∃ vs, H p = some (.lst vs) ∧ DpAll K G vs l := by
  obtain ⟨_, o, h1, vs, h2, h3⟩ := w.own _ h
  subst h2
  exact ⟨vs, h1, h3⟩
theorem sub_own {p : Addr} {l : List PyData} {i : Int} {d : PyData} (h : (p, OV.dl l) ∈ m) (hi : 0 ≤ i) (hd : l[i.toNat]? = some d) : SubD X m (.raw (.ref p)) (I i) (.py d) := ⟨_, ix_list, fun G H v u w r1 r2 Q q => by
  cases ds_raw r1
  cases ds_int r2
  obtain ⟨vs, h1, h2⟩ := own_get w h
  obtain ⟨x, h3, h4⟩ := dpa_get h2 hd
  exact ⟨p, vs, i, x, rfl, rfl, SqL.of h1, at_of (j := i.toNat) (by omega) h3, q _ _ _ (.refl w) (.py h4)⟩⟩
theorem dpa_set {K : PySem.W.Frag} {G : Hp} {v : V} {d : PyData} (r : Dp K G v d) : ∀ {vs : List V} {ds : List PyData} (i : Nat), DpAll K G vs ds → DpAll K G (vs.set i v) (ds.set i d)
  | _, _, _, .nil => .nil
  | _, _, 0, .cons _ t => .cons r t
  | _, _, i + 1, .cons q t => .cons q (dpa_set r i t)
theorem ws_store {o i : Expr} {tpos : Pos} {p : Addr} {j : Int} {E : ED} (ho : EE X o ds (.raw (.ref p))) (hi : EE X i ds (PySem.PyData.int j |> SD.py)) (h : WE X e ds m fun d m1 => ∃ d' l, d = .py d' ∧ (p, OV.dl l) ∈ m1 ∧ 0 ≤ j ∧ j < l.length ∧ E.nx ds (mset m1 p (.dl (l.set j.toNat d'))))
    (ha : ∀ v, assign (.Subscript o i tpos) X.env v = (do
      let ov ← holding [v] (eval o X.env)
      let iv ← holding [v, ov] (eval i X.env)
      standAt tpos
      holding [v, ov, iv] (setItem ov iv v)
      release [v, ov, iv] []) := by intro _; rfl) (hs : swapsWithSole [.Subscript o i tpos] e pos.line X.env = pure false := by rfl) (hw : swappedStores [.Subscript o i tpos] e X.env = pure none := by rfl)
    (h1 : (assignEach [.Subscript o i tpos] X.env).map (·.2) = [assign (.Subscript o i tpos) X.env] := by rfl) : WS X (.Assign [.Subscript o i tpos] e pos) ds m E := fun σ G H e0 w D k =>
  oS (ps_asg (pE e) (pg_sub (pE o) (pE i) set_list ha) hs hw h1) (h σ G H e0 w _ fun v d m1 G1 H1 g1 r1 ⟨d', l, e1, hm, h0, hj, p'⟩ => by
    subst e1
    refine ho m1 σ G1 H1 (e0.mono g1.g) g1.wd _ fun ov od m2 G2 H2 g2 r2 ⟨e1, e2⟩ => ?_
    subst e1 e2
    refine hi m2 σ G2 H2 (e0.mono (g1.trans g2).g) g2.wd _ fun iv id m3 G3 H3 g3 r3 ⟨e1, e2⟩ => ?_
    subst e1 e2
    cases ds_raw r2
    cases ds_int r3
    obtain ⟨vs, h1, h2⟩ := own_get g3.wd hm
    have hl := dpa_length h2
    have hjn : ixN vs.length j = some j.toNat := by
      unfold ixN
      rw [if_pos h0, if_pos (by omega)]
    refine ⟨p, vs, j, j.toNat, rfl, rfl, h1, hjn, ?_⟩
    have r4 : Dp X.K G3 v d' := by
      cases ds_mono (g2.trans g3).g r1 with
      | py z => exact z
    have g4 := Gr.set (o := .lst (vs.set j.toNat v)) (v := .dl (l.set j.toNat d')) g3.wd hm ⟨_, rfl, dpa_set r4 _ h2⟩
    exact k.nx _ _ _ _ _ (((g1.trans g2).trans g3).trans g4) (e0.mono (((g1.trans g2).trans g3).trans g4).g) p')
theorem ws_app {o : Expr} {apos cpos : Pos} {p : Addr} {E : ED} (ho : EE X o ds (.raw (.ref p))) (hp0 : ∃ l0, (p, OV.dl l0) ∈ m) (h : WE X e ds m fun d m1 => ∃ d' l, d = .py d' ∧ (p, OV.dl l) ∈ m1 ∧ l.length < 1000000 ∧ E.nx ds (mset m1 p (.dl (l ++ [d']))))
    (hbase : attributeBase o "append" X.env (eval o X.env) = eval o X.env := by rfl)
    (hfew : ((backTo cpos (starEach (e :: []) X.env)).all (fun x => !x.1) && (backToKw cpos (keywordEach [] X.env)).all (fun x => x.1.isSome)
      && decide ((e :: ([] : List Expr)).length + ([] : List Keyword).length + (if ([] : List Keyword).isEmpty then 0 else 1) < 30)) = true := by rfl)
    (hline : (apos.endLine == cpos.line) = true := by rfl) (hs : starEach (e :: []) X.env = (false, eval e X.env) :: starEach [] X.env := by rfl) (hplain : (backTo cpos (starEach [] X.env)).any (·.1) = false := by rfl)
    (hsw : swapsWith (.Call (.Attribute o "append" apos) [e] [] cpos) none pos.line X.env = pure false := by rfl) : WS X (.Expr (.Call (.Attribute o "append" apos) [e] [] cpos) pos) ds m E := fun σ G H e0 w D k =>
  oS (ps_expr (pe_bm PySem.F.plainAttrs_list PySem.F.slot_list_append PySem.F.type_list_append mt_append (pE o) (pa_cons (pE e) pa_nil hs) hbase hfew hline hs hplain) hsw) (by
    refine ho m σ G H e0 w _ fun ov od m1 G1 H1 g1 r1 ⟨e1, e2⟩ => ?_
    subst e1 e2
    cases ds_raw r1
    obtain ⟨l0, hl0⟩ := hp0
    obtain ⟨vs0, h1, _⟩ := own_get g1.wd hl0
    refine ⟨.inl ⟨rfl, vs0, SqL.of h1⟩, ?_⟩
    refine h σ G1 H1 (e0.mono g1.g) g1.wd _ fun v d m2 G2 H2 g2 r2 ⟨d', l, e1, hm, hl, p'⟩ => ?_
    subst e1
    obtain ⟨vs, h3, h4⟩ := own_get g2.wd hm
    have hlen := dpa_length h4
    refine ⟨p, vs, v, rfl, rfl, h3, by have := sizeLine_eq; omega, ?_⟩
    have r4 : Dp X.K G2 v d' := by
      cases r2 with
      | py z => exact z
    have g4 := Gr.set (o := .lst (vs ++ [v])) (v := .dl (l ++ [d'])) g2.wd hm ⟨_, rfl, dpa_append h4 (.cons r4 .nil)⟩
    exact k.nx _ _ _ _ _ ((g1.trans g2).trans g4) (e0.mono ((g1.trans g2).trans g4).g) p')
/-- an owned list becomes plain data -/
theorem wss_seal {sts : List Stmt} {i : Nat} {p : Addr} {l : List PyData} {E : ED} (hd : ds[i]? = some (some (.raw (.ref p)))) (h : WSs X sts (ds.set i (some (Ls l))) m E) : WSs X sts ds ((p, .dl l) :: m) E := fun σ G H e0 w D k => by
  obtain ⟨vs, h1, h2⟩ := own_get w List.mem_cons_self
  have g := Gr.seal w h1
  obtain ⟨v, hv, hr⟩ := e0.2 i _ hd
  cases ds_raw hr
  exact h σ _ H ((e0.mono g.g).retype hv (.py (.lst (SqL.of upd_same) (dpa_mono g.g h2)))) g.wd D (k.after g)
theorem Gr.perm {K : PySem.W.Frag} {m m' : MS} {G H : Hp} (w : Wd K m G H) (h : m.Perm m') : Gr K m m' G H G H := ⟨Ex.refl _, fun _ _ _ e => e, fun _ e => e, fun _ _ e _ _ => e, fun q hq => .inl (mem_ad (h.mem_iff.mpr hq)), w.perm h⟩
theorem WSs.mono {sts : List Stmt} {E E' : ED} (h : WSs X sts ds m E) (k : ∀ d m', E.nx d m' → E'.nx d m') (k2 : ∀ d m', E.rt d m' → E'.rt d m') (k3 : ∀ d m', E.bk d m' → E'.bk d m') (k4 : ∀ d m', E.ct d m' → E'.ct d m') : WSs X sts ds m E' := fun σ G H e0 w D q =>
  h σ G H e0 w D ⟨fun _ _ _ _ _ g e p => q.nx _ _ _ _ _ g e (k _ _ p), fun _ _ _ _ _ g e p => q.rt _ _ _ _ _ g e (k2 _ _ p), fun _ _ _ _ _ g e p => q.bk _ _ _ _ _ g e (k3 _ _ p), fun _ _ _ _ _ g e p => q.ct _ _ _ _ _ g e (k4 _ _ p)⟩
end
/-! ### what is walked -/
def ItD (K : PySem.W.Frag) (J : It) (G : Hp) (xs : List SD) : Prop :=
  (∀ i H, Ex G H → i < xs.length → J.go i H) ∧ (∀ H, Ex G H → J.stop xs.length H) ∧
  ∀ i m' G' H x H', Ex G G' → Wd K m' G' H → i < xs.length → J.yld i H x H' → ∃ G'' d, Gr K m' m' G' H G'' H' ∧ xs[i]? = some d ∧ DS K G'' x d
def WI (X : Cx) (tg iter : Expr) (ds : DE) (m : MS) (R : List SD → MS → Prop) : Prop := ∀ σ G H, EnvD X.K G σ ds → Wd X.K m G H → ∀ R' : It → Hp → Prop, (∀ J xs m' G' H', Gr X.K m m' G H G' H' → ItD X.K J G' xs → R xs m' → R' J H') → wI X tg iter σ H R'
def EI (X : Cx) (tg iter : Expr) (ds : DE) (xs : List SD) : Prop := ∀ m, WI X tg iter ds m fun xs' m' => xs' = xs ∧ m' = m
section
variable {X : Cx} {ds : DE} {m : MS} {e a b c tg : Expr} {es rest : List Expr} {pos : Pos}
theorem EI.to {xs : List SD} {R : List SD → MS → Prop} (h : EI X tg e ds xs) (p : R xs m) : WI X tg e ds m R := fun σ G H E w R' q => h m σ G H E w R' fun J xs' m' G' H' g i ⟨e1, e2⟩ => by subst e1 e2; exact q _ _ _ _ _ g i p
theorem ei_lst {l : List PyData} (h : EE X e ds (Ls l)) : EI X tg e ds (l.map .py) := fun m σ G H E w R' q => oI (pi_list (pE e)) (h m σ G H E w _ fun v d m1 G1 H1 g1 r1 ⟨e1, e2⟩ => by
  subst e1 e2
  obtain ⟨a, vs, rfl, h1, h2⟩ := ds_lst r1
  have hl : vs.length = l.length := dpa_length h2
  refine ⟨a, rfl, ⟨vs, ex_l g1.wd.w h1⟩, q _ _ _ _ _ g1 ⟨fun i H e hi => ?_, fun H e => ⟨vs, ex_l e h1, by rw [hl]; simp⟩, fun i m' G' H x H' e w' hi y => ?_⟩ ⟨rfl, rfl⟩⟩
  · have hi' : i < vs.length := by rw [hl]; simpa using hi
    exact ⟨vs, vs[i], ex_l e h1, List.getElem?_eq_getElem hi'⟩
  · obtain ⟨e1, y⟩ := y
    subst e1
    have hx := y vs (ex_l (e.trans w'.w) h1)
    obtain ⟨d, h3, h4⟩ := dpa_get' h2 hx
    exact ⟨G', .py d, .refl w', by rw [List.getElem?_map, h3]; rfl, .py (dp_mono e h4)⟩)
theorem wi_lst {P : List SD → MS → Prop} (h : WE X e ds m fun d m1 => ∃ l, d = Ls l ∧ P (l.map .py) m1) : WI X tg e ds m P := fun σ G H E w R' q => oI (pi_list (pE e)) (h σ G H E w _ fun v d m1 G1 H1 g1 r1 ⟨l, e1, p⟩ => by
  subst e1
  obtain ⟨a, vs, rfl, h1, h2⟩ := ds_lst r1
  have hl : vs.length = l.length := dpa_length h2
  refine ⟨a, rfl, ⟨vs, ex_l g1.wd.w h1⟩, q _ _ _ _ _ g1 ⟨fun i H e hi => ?_, fun H e => ⟨vs, ex_l e h1, by rw [hl]; simp⟩, fun i m' G' H x H' e w' hi y => ?_⟩ p⟩
  · have hi' : i < vs.length := by rw [hl]; simpa using hi
    exact ⟨vs, vs[i], ex_l e h1, List.getElem?_eq_getElem hi'⟩
  · obtain ⟨e1, y⟩ := y
    subst e1
    have hx := y vs (ex_l (e.trans w'.w) h1)
    obtain ⟨d, h3, h4⟩ := dpa_get' h2 hx
    exact ⟨G', .py d, .refl w', by rw [List.getElem?_map, h3]; rfl, .py (dp_mono e h4)⟩)
theorem ei_tup {l : List PyData} (h : EE X e ds (Tp l)) : EI X tg e ds (l.map .py) := fun m σ G H E w R' q => oI (pi_tup (pE e)) (h m σ G H E w _ fun v d m1 G1 H1 g1 r1 ⟨e1, e2⟩ => by
  subst e1 e2
  obtain ⟨a, vs, rfl, h1, h2⟩ := ds_tup r1
  have hl : vs.length = l.length := dpa_length h2
  refine ⟨a, rfl, ⟨vs, ex_t g1.wd.w h1⟩, q _ _ _ _ _ g1 ⟨fun i H e hi => ?_, fun H e => ⟨vs, ex_t e h1, by rw [hl]; simp⟩, fun i m' G' H x H' e w' hi y => ?_⟩ ⟨rfl, rfl⟩⟩
  · have hi' : i < vs.length := by rw [hl]; simpa using hi
    exact ⟨vs, vs[i], ex_t e h1, List.getElem?_eq_getElem hi'⟩
  · obtain ⟨e1, y⟩ := y
    subst e1
    have hx := y vs (ex_t (e.trans w'.w) h1)
    obtain ⟨d, h3, h4⟩ := dpa_get' h2 hx
    exact ⟨G', .py d, .refl w', by rw [List.getElem?_map, h3]; rfl, .py (dp_mono e h4)⟩)
theorem ei_str {l : List Nat} (h : EE X e ds (S l)) : EI X tg e ds (l.map fun c => S [c]) := fun m σ G H E w R' q => oI (pi_str (pE e)) (h m σ G H E w _ fun v d m1 G1 H1 g1 r1 ⟨e1, e2⟩ => by
  subst e1 e2
  cases ds_str r1
  refine ⟨_, rfl, q (Its ⟨l.toArray⟩) _ _ _ _ g1 ⟨fun i H e hi => ?_, fun H e => ?_, fun i m' G' H x H' e w' hi y => ?_⟩ ⟨rfl, rfl⟩⟩
  · show i < l.toArray.size
    simpa using hi
  · show l.toArray.size ≤ (l.map fun c => S [c]).length
    simp
  · obtain ⟨e1, c, h1, h2⟩ := y
    subst e1 h2
    have h1 : l[i]? = some c := by simpa using h1
    refine ⟨G', S [c], .refl w', by rw [List.getElem?_map, h1]; rfl, ?_⟩
    exact .py (.str _))
theorem map_range_get {α : Type} {n i : Nat} {f : Nat → α} (h : i < n) : ((List.range n).map f)[i]? = some (f i) := by
  rw [List.getElem?_map, List.getElem?_range h]
  rfl
theorem ei_range1 {n : Int} {p : Pos} (h : EE X a ds (I n)) (hn : -(2 ^ 62) ≤ n ∧ n < 2 ^ 62) (hm : X.mg "range" = none) (hg : Gl X "range" := by rfl) (hs : starEach [a] X.env = [(false, eval a X.env)] := by rfl) :
    EI X tg (.Call (.Name "range" p) [a] [] pos) ds ((List.range n.toNat).map fun (i : Nat) => I (i : Int)) := fun m σ G H E w R' q => oI (pi_range1 hg hm (pa_cons (pE a) pa_nil (by rw [hs]; rfl)) hs) (h m σ G H E w _ fun v d m1 G1 H1 g1 r1 ⟨e1, e2⟩ => by
  subst e1 e2
  cases ds_int r1
  refine ⟨n, rfl, hn.1, hn.2, q _ _ _ _ _ g1 ⟨fun i H e hi => ?_, fun H e => ?_, fun i m' G' H x H' e w' hi y => ?_⟩ ⟨rfl, rfl⟩⟩
  · show i < n.toNat
    rw [List.length_map, List.length_range] at hi; exact hi
  · show n.toNat ≤ ((List.range n.toNat).map fun (i : Nat) => I (i : Int)).length
    rw [List.length_map, List.length_range]; exact Nat.le_refl _
  · obtain ⟨e1, e2⟩ := y
    subst e1 e2
    refine ⟨G', I ((0 : Int) + (i : Int)), .refl w', ?_, .py (.int _)⟩
    rw [map_range_get (by simpa using hi), Int.zero_add])
theorem wi_range1 {p : Pos} {P : List SD → MS → Prop} (h : WE X a ds m fun d m1 => ∃ n : Int, d = I n ∧ (-(2 ^ 62) ≤ n ∧ n < 2 ^ 62) ∧ P ((List.range n.toNat).map fun (i : Nat) => I (i : Int)) m1) (hm : X.mg "range" = none) (hg : Gl X "range" := by rfl) (hs : starEach [a] X.env = [(false, eval a X.env)] := by rfl) :
    WI X tg (.Call (.Name "range" p) [a] [] pos) ds m P := fun σ G H E w R' q => oI (pi_range1 hg hm (pa_cons (pE a) pa_nil (by rw [hs]; rfl)) hs) (h σ G H E w _ fun v d m1 G1 H1 g1 r1 ⟨n, e1, hn, p⟩ => by
  subst e1
  cases ds_int r1
  refine ⟨n, rfl, hn.1, hn.2, q _ _ _ _ _ g1 ⟨fun i H e hi => ?_, fun H e => ?_, fun i m' G' H x H' e w' hi y => ?_⟩ p⟩
  · show i < n.toNat
    rw [List.length_map, List.length_range] at hi; exact hi
  · show n.toNat ≤ ((List.range n.toNat).map fun (i : Nat) => I (i : Int)).length
    rw [List.length_map, List.length_range]; exact Nat.le_refl _
  · obtain ⟨e1, e2⟩ := y
    subst e1 e2
    refine ⟨G', I ((0 : Int) + (i : Int)), .refl w', ?_, .py (.int _)⟩
    rw [map_range_get (by simpa using hi), Int.zero_add])
/-- zip of two tuples, of two lists -/
theorem zip_get {l k : List PyData} {i : Nat} {d d2 : PyData} (h : l[i]? = some d) (h2 : k[i]? = some d2) : ((List.zip l k).map fun (q : PyData × PyData) => Tp [q.1, q.2])[i]? = some (Tp [d, d2]) := by
  rw [List.getElem?_map, List.getElem?_zip_eq_some (z := (d, d2)) |>.mpr ⟨h, h2⟩]
  rfl
theorem ei_zipT {l k : List PyData} {p : Pos} {elts : List Expr} {kk : Nat} {tpos : Pos} (h : EE X a ds (Tp l)) (h2 : EE X b ds (Tp k)) (hm : X.mg "zip" = none) (hg : Gl X "zip" := by rfl)
    (hs : starEach [a, b] X.env = (false, eval a X.env) :: starEach [b] X.env := by rfl) (hpl : (backTo pos (starEach [b] X.env)).any (·.1) = false := by rfl) (hs2 : starEach [b] X.env = (false, eval b X.env) :: starEach [] X.env := by rfl) :
    EI X (.Tuple elts kk tpos) (.Call (.Name "zip" p) [a, b] [] pos) ds ((List.zip l k).map fun (q : PyData × PyData) => Tp [q.1, q.2]) := fun m σ G H E w R' q => oI (RZ.pi_zipA hg hm (pa_cons (pE a) (pa_cons (pE b) pa_nil hs2) hs) hs hpl) (h m σ G H E w _ fun v d m1 G1 H1 g1 r1 ⟨e1, e2⟩ => by
  subst e1 e2
  refine h2 m1 σ G1 H1 (E.mono g1.g) g1.wd _ fun v2 d m2 G2 H2 g2 r2 ⟨e1, e2⟩ => ?_
  subst e1 e2
  obtain ⟨a1, xs, rfl, p1, p2⟩ := ds_tup (ds_mono g2.g r1)
  obtain ⟨a2, ys, rfl, p3, p4⟩ := ds_tup r2
  have l1 := dpa_length p2
  have l2 := dpa_length p4
  refine ⟨a1, a2, xs, ys, rfl, .inr ⟨ex_t g2.wd.w p1, ex_t g2.wd.w p3, q _ _ _ _ _ (g1.trans g2) ⟨fun i H e hi => ?_, fun H e => ?_, fun i m' G' H x H' e w' hi y => ?_⟩ ⟨rfl, rfl⟩⟩⟩
  · have hi : i < min l.length k.length := by simpa using hi
    exact ⟨xs, ys, xs[i]'(by omega), ys[i]'(by omega), ex_t e p1, ex_t e p3, List.getElem?_eq_getElem _, List.getElem?_eq_getElem _⟩
  · refine ⟨xs, ys, ex_t e p1, ex_t e p3, ?_⟩
    rw [List.length_map, List.length_zip]
    omega
  · obtain ⟨T, x1, x2, rfl, nT, rfl, f1, f2⟩ := y
    obtain ⟨d, h3, h4⟩ := dpa_get' p2 (f1 xs (ex_t (e.trans w'.w) p1))
    obtain ⟨d2, h5, h6⟩ := dpa_get' p4 (f2 ys (ex_t (e.trans w'.w) p3))
    have g3 := Gr.new (o := .tup [x1, x2]) w' nT
    exact ⟨_, Tp [d, d2], g3, zip_get h3 h5, .py (.tup upd_same (.cons (dp_mono (e.trans g3.g) h4) (.cons (dp_mono (e.trans g3.g) h6) .nil)))⟩)
/-! ### for -/
theorem ws_for {iter : Expr} {body : List Stmt} {js : List Nat} {E : ED} (h : WI X tg iter ds m fun xs m1 => ∃ Iv : Nat → DE → MS → Prop, Iv 0 ds m1 ∧
      (∀ i x ds' m', xs[i]? = some x → Iv i ds' m' → WG X tg js x ds' m' fun ds2 m2 => WSs X body ds2 m2 { E with nx := Iv (i + 1), ct := Iv (i + 1), bk := E.nx }) ∧ ∀ ds' m', Iv xs.length ds' m' → E.nx ds' m')
    (hp : PassesOwn (model X.prog X.w) X.A X.env X.xe := by exact PassesOwn.never) (hc : X.calm = true := by rfl) (hs : ∀ x, foldedSetIterable iter X.env x = pure x := by intro _; rfl) : WS X (.For tg iter body [] pos) ds m E := fun σ G H e0 w D k =>
  oS (ps_for hp hc (pI tg iter) (pG tg) (pSs body) hs) (h σ G H e0 w _ fun J xs m1 G1 H1 g1 it ⟨Iv, i0, turn, fin⟩ => by
    obtain ⟨go, stop, yld⟩ := it
    refine ⟨fun i mm σ' H' => mm = xs.length - i ∧ i ≤ xs.length ∧ ∃ ds' m' G', Gr X.K m1 m' G1 H1 G' H' ∧ EnvD X.K G' σ' ds' ∧ Iv i ds' m', ⟨_, rfl, Nat.zero_le _, ds, m1, G1, .refl g1.wd, e0.mono g1.g, i0⟩, ?_⟩
    rintro i mm σ' H' ⟨rfl, hi, ds', m', G', g2, e2, iv⟩
    by_cases hlt : i < xs.length
    · refine .inr ⟨go i H' (g2.g.trans g2.wd.w) hlt, fun σ'' H'' => ∃ ds'' m'' G'', Gr X.K m1 m'' G1 H1 G'' H'' ∧ EnvD X.K G'' σ'' ds'' ∧ Iv (i + 1) ds'' m'', fun σ'' H'' ⟨ds'', m'', G'', a, b, c⟩ => ⟨xs.length - (i + 1), by omega, rfl, hlt, ds'', m'', G'', a, b, c⟩, fun x H'' y => ?_⟩
      obtain ⟨G3, d, g3, hd, r3⟩ := yld i m' G' H' x H'' g2.g g2.wd hlt y
      refine turn i d ds' m' hd iv σ' G3 H'' x (e2.mono g3.g) g3.wd r3 _ fun σ4 ds4 m4 G4 H4 g4 e4 _ p4 => ?_
      have gg := (g2.trans g3).trans g4
      refine p4 σ4 G4 H4 e4 g4.wd _ ⟨fun σ5 ds5 m5 G5 H5 g5 e5 p5 => ⟨ds5, m5, G5, gg.trans g5, e5, p5⟩, fun v d5 m5 G5 H5 g5 r5 p5 => k.rt _ _ _ _ _ ((g1.trans gg).trans g5) r5 p5, fun σ5 ds5 m5 G5 H5 g5 e5 p5 => k.nx _ _ _ _ _ ((g1.trans gg).trans g5) e5 p5, fun σ5 ds5 m5 G5 H5 g5 e5 p5 => ⟨ds5, m5, G5, gg.trans g5, e5, p5⟩⟩
    · have e : i = xs.length := by omega
      subst e
      exact .inl ⟨stop H' (g2.g.trans g2.wd.w), k.nx _ _ _ _ _ (g1.trans g2) e2 (fin _ _ iv)⟩)
/-! ### list comprehensions -/
abbrev Blk (X : Cx) (scope : Scope) (s : Shared) (H : Hp) (C : Addr) (cl : List (Str × Addr)) (fp : List Addr) : Cx := X.blk s H scope (compEnvC scope cl C X.env) fp
theorem wts_nil {P : Bool → MS → Prop} (p : P true m) : WTs X [] ds m P := fun σ G H E w Q q pins s I => pts_nil.run pins s σ H Q I (q _ _ _ _ (.refl w) p)
theorem wts_one {P : Bool → MS → Prop} (h : WT X e ds m P) : WTs X [e] ds m P := fun σ G H E w Q q pins s I => (pts_one (pT e)).run pins s σ H Q I (h σ G H E w Q q)
/-- what holds in each block of a comprehension -/
def AllBlk (X : Cx) (scope : Scope) (P : Cx → Prop) : Prop := ∀ s H C cl fp, P (Blk X scope s H C cl fp)
/-- a turn of a comprehension -/
def LcTurn (X : Cx) (scope : Scope) (tg elt : Expr) (ifs : List Expr) (js : List Nat) (x : SD) (ds : DE) (m : MS) (Yes : PyData → MS → Prop) (No : MS → Prop) : Prop :=
  AllBlk X scope fun Y => WG Y tg js x (wipeD ds js) m fun ds2 m2 => AllBlk X scope fun Y => WTs Y ifs ds2 m2 fun k m3 => if k = true then AllBlk X scope fun Y => WE Y elt ds2 m3 (fun d m4 => ∃ d', d = .py d' ∧ Yes d' m4) else No m3
theorem lc_read {elt iter : Expr} {ifs : List Expr} {scope : Scope} {own : List (Str × Nat)} {σ : L2.St} {G H : Hp} {Q : VK} (e0 : EnvD X.K G σ ds) (w : Wd X.K m G H) {P : List PyData → MS → Prop}
    (h : WI X tg iter ds m fun xs m1 => xs.length ≤ 1000000 ∧ ∃ Iv : Nat → List PyData → MS → Prop, Iv 0 [] m1 ∧
      (∀ i x acc m', xs[i]? = some x → acc.length ≤ i → Iv i acc m' → LcTurn X scope tg elt ifs (own.map (·.2)) x ds m' (fun d m4 => Iv (i + 1) (acc ++ [d]) m4) (fun m4 => Iv (i + 1) acc m4)) ∧ ∀ acc m', acc.length ≤ xs.length → Iv xs.length acc m' → P acc m')
    (q : ∀ v acc m' G' H', Gr X.K m m' G H G' H' → DS X.K G' v (Ls acc) → P acc m' → Q v H') :
    tLc (wI X tg iter) (fun v σ H Q => ∀ s H0 C cl fp, wG (Blk X scope s H0 C cl fp) tg v σ H Q) (fun σ H Q => ∀ s H0 C cl fp, wTs (Blk X scope s H0 C cl fp) ifs σ H Q) (fun σ H Q => ∀ s H0 C cl fp, wE (Blk X scope s H0 C cl fp) elt σ H Q) (own.map (·.2)) σ H Q := by
  refine h σ G H e0 w _ fun J xs m1 G1 H1 g1 it ⟨hbig, Iv, i0, turn, fin⟩ => fun Dl hD => ?_
  obtain ⟨go, stop, yld⟩ := it
  have gD := Gr.made (o := .lst []) (v := .dl []) g1.wd hD ⟨[], rfl, .nil⟩
  refine ⟨fun i mm H' => mm = xs.length - i ∧ i ≤ xs.length ∧ ∃ acc m' G', Gr X.K m1 ((Dl, .dl acc) :: m') G1 H1 G' H' ∧ acc.length ≤ i ∧ Iv i acc m', ⟨_, rfl, Nat.zero_le _, [], m1, G1, gD, Nat.le_refl _, i0⟩, ?_⟩
  rintro i mm H' ⟨rfl, hi, acc, m', G', g2, hacc, iv⟩
  by_cases hlt : i < xs.length
  · refine .inr ⟨go i H' (g2.g.trans g2.wd.w) hlt, fun H'' => ∃ acc'' m'' G'', Gr X.K m1 ((Dl, .dl acc'') :: m'') G1 H1 G'' H'' ∧ acc''.length ≤ i + 1 ∧ Iv (i + 1) acc'' m'', fun H'' ⟨acc'', m'', G'', a, b, c⟩ => ⟨xs.length - (i + 1), by omega, rfl, hlt, acc'', m'', G'', a, b, c⟩, fun x H3 y => ?_⟩
    obtain ⟨G3, d, g3, hd, r3⟩ := yld i _ G' H' x H3 g2.g g2.wd hlt y
    intro s H0 C cl fp
    have e3 : EnvD X.K G3 (L2.wipe σ (own.map (·.2))) (wipeD ds (own.map (·.2))) := (e0.mono ((g1.trans g2).trans g3).g).wipe _
    have w3 : Wd X.K m' G3 H3 := Wd.sub (fr := [(Dl, .dl acc)]) g3.wd
    refine turn i d acc m' hd hacc iv s H0 C cl fp _ G3 H3 x e3 w3 r3 _ fun σ4 ds4 m4 G4 H4 g4 e4 k4 p4 => ?_
    have f4 := Gr.frame (fr := [(Dl, .dl acc)]) g3.wd g4
    refine ⟨wipe_same (by rw [k4.2, L2.wipe_length]) k4.1, fun s H0 C cl fp => ?_⟩
    refine p4 s H0 C cl fp σ4 G4 H4 e4 g4.wd _ fun kk m5 G5 H5 g5 p5 => ?_
    have f5 := Gr.frame (fr := [(Dl, .dl acc)]) f4.wd g5
    cases kk with
    | false =>
      rw [if_neg Bool.false_ne_true] at p5 ⊢
      exact ⟨acc, m5, G5, ((g2.trans g3).trans f4).trans f5, by omega, p5⟩
    | true =>
      rw [if_pos rfl] at p5 ⊢
      intro s H0 C cl fp
      refine p5 s H0 C cl fp σ4 G5 H5 (e4.mono g5.g) g5.wd _ fun v d6 m6 G6 H6 g6 r6 ⟨d', e6, p6⟩ => ?_
      subst e6
      have f6 := Gr.frame (fr := [(Dl, .dl acc)]) f5.wd g6
      obtain ⟨vs, h1, h2⟩ := own_get f6.wd List.mem_cons_self
      have hlen := dpa_length h2
      have r7 : Dp X.K G6 v d' := by
        cases r6 with
        | py z => exact z
      have g7 := Gr.set (o := .lst (vs ++ [v])) (v := .dl (acc ++ [d'])) f6.wd List.mem_cons_self ⟨_, rfl, dpa_append h2 (.cons r7 .nil)⟩
      have em : mset ([(Dl, OV.dl acc)] ++ m6) Dl (.dl (acc ++ [d'])) = (Dl, .dl (acc ++ [d'])) :: m6 := by
        have nd := f6.wd.nd
        unfold ad at nd
        rw [List.singleton_append, List.map_cons, List.nodup_cons] at nd
        show (if Dl = Dl then (Dl, OV.dl (acc ++ [d'])) else (Dl, OV.dl acc)) :: m6.map _ = _
        rw [if_pos rfl]
        congr 1
        refine (List.map_congr_left fun q hq => ?_).trans (List.map_id _)
        have ne : q.1 ≠ Dl := fun z => nd.1 (List.mem_map.mpr ⟨q, hq, z⟩)
        rw [if_neg ne]
        rfl
      rw [em] at g7
      refine ⟨vs, h1, by have := sizeLine_eq; omega, acc ++ [d'], m6, G6, ((((g2.trans g3).trans f4).trans f5).trans f6).trans g7, by rw [List.length_append]; show acc.length + 1 ≤ i + 1; omega, p6⟩
  · have e : i = xs.length := by omega
    subst e
    have g3 := Gr.seal g2.wd (own_get g2.wd List.mem_cons_self).choose_spec.1
    refine .inl ⟨stop H' (g2.g.trans g2.wd.w), q _ acc m' _ H' ((g1.trans g2).trans g3) ?_ (fin _ _ hacc iv)⟩
    have z := (own_get g2.wd List.mem_cons_self).choose_spec
    exact .py (.lst (SqL.of upd_same) (dpa_mono g3.g z.2))
/-- [elt for tg in iter if ..] -/
theorem we_lc {elt iter : Expr} {ifs : List Expr} {scope : Scope} {P : SD → MS → Prop} (own : List (Str × Nat)) (hN : X.N.Nodup)
    (h : WI X tg iter ds m fun xs m1 => xs.length ≤ 1000000 ∧ ∃ Iv : Nat → List PyData → MS → Prop, Iv 0 [] m1 ∧
      (∀ i x acc m', xs[i]? = some x → acc.length ≤ i → Iv i acc m' → LcTurn X scope tg elt ifs (own.map (·.2)) x ds m' (fun d m4 => Iv (i + 1) (acc ++ [d]) m4) (fun m4 => Iv (i + 1) acc m4)) ∧ ∀ acc m', acc.length ≤ xs.length → Iv xs.length acc m' → P (Ls acc) m')
    (ok : BlkOk X.N X.env.scope scope own) (hc : X.calm = true := by rfl) (hs : ∀ x, foldedSetIterable iter X.env x = pure x := by intro _; rfl) : WE X (.ListComp elt [⟨tg, iter, ifs, 0⟩] scope pos) ds m P := fun σ G H e0 w Q q =>
  oE (pe_lc (own := own) hc hN (pI tg iter) ok (fun s H C cl fp => ⟨fun pins s' σ H' v u Q I r h => h s H C cl fp pins s' u I r⟩) (fun s H C cl fp => ⟨fun pins s' σ H' Q I h => h s H C cl fp pins s' I⟩) (fun s H C cl fp => ⟨fun pins s' σ H' Q I h => h s H C cl fp pins s' I⟩) hs)
    (lc_read (P := fun acc m' => P (Ls acc) m') e0 w h fun v acc m' G' H' g r p => q v _ m' G' H' g r p)
/-- y = [..] -/
theorem ws_setLc {elt iter : Expr} {ifs : List Expr} {scope : Scope} {i : Nat} {y : Str} {py spos : Pos} {E : ED} (own : List (Str × Nat)) (hN : X.N.Nodup)
    (h : WI X tg iter ds m fun xs m1 => xs.length ≤ 1000000 ∧ ∃ Iv : Nat → List PyData → MS → Prop, Iv 0 [] m1 ∧
      (∀ i x acc m', xs[i]? = some x → acc.length ≤ i → Iv i acc m' → LcTurn X scope tg elt ifs (own.map (·.2)) x ds m' (fun d m4 => Iv (i + 1) (acc ++ [d]) m4) (fun m4 => Iv (i + 1) acc m4)) ∧ ∀ acc m', acc.length ≤ xs.length → Iv xs.length acc m' → E.nx (ds.set i (some (Ls acc))) m')
    (ok : BlkOk X.N X.env.scope scope own) (hsw : swapsWith (.ListComp elt [⟨tg, iter, ifs, 0⟩] scope pos) (some (.Name y py)) spos.line X.env = pure true) (hi : X.N[i]? = some y := by rfl) (hyl : X.env.scope.names.lookup y = some .local := by rfl)
    (hc : X.calm = true := by rfl) (hs : ∀ x, foldedSetIterable iter X.env x = pure x := by intro _; rfl) : WS X (.Assign [.Name y py] (.ListComp elt [⟨tg, iter, ifs, 0⟩] scope pos) spos) ds m E := fun σ G H e0 w D k =>
  oS (ps_setLc (own := own) hc hN hi hyl hsw (pI tg iter) ok (fun s H C cl fp => ⟨fun pins s' σ H' v u Q I r h => h s H C cl fp pins s' u I r⟩) (fun s H C cl fp => ⟨fun pins s' σ H' Q I h => h s H C cl fp pins s' I⟩) (fun s H C cl fp => ⟨fun pins s' σ H' Q I h => h s H C cl fp pins s' I⟩) hs)
    (lc_read (P := fun acc m' => E.nx (ds.set i (some (Ls acc))) m') e0 w h fun v acc m' G' H' g r p => k.nx _ _ m' G' H' g ((e0.mono g.g).set r) p)
end
end W9
namespace W9
open PySem PySem.Spec PyProof.Rows L2
/-! ### defs, where nothing is being shown by repr around -/
structure Rm (k : Nat) (A : Around) : Prop where
  r : Room k A
  g : A.guards = some []
theorem Rm.mono {j k : Nat} {A : Around} (h : Rm k A) (l : j ≤ k) : Rm j A := ⟨h.r.mono l, h.g⟩
structure FnG (P : Program) (w : World) (K : PySem.W.Frag) (mg : Str → Option Value) (base : Heap) (CX : CXT) (k : Nat) (f : Addr) (fd : FuncData) (ps : List Str) (sp : Sp) : Prop where
  len : ∀ vs H Q E, sp vs H Q E → vs.length = ps.length
  go : ∀ A outer s H args us vs Q E, Rm k A → Env0 P w K mg base A outer s H → BindsTo s fd args (ps.zip us) → Vals vs us → sp vs H Q E → codeAny (model P w) A (.call (.ref f) args) (CR CX outer P w H s Q E) s
theorem FnG.mono {P : Program} {w : World} {K : PySem.W.Frag} {mg : Str → Option Value} {base : Heap} {CX : CXT} {j k : Nat} {f : Addr} {fd : FuncData} {ps : List Str} {sp : Sp} (F : FnG P w K mg base CX j f fd ps sp) (h : j ≤ k) : FnG P w K mg base CX k f fd ps sp :=
  ⟨F.len, fun A outer s H args us vs Q E r => F.go A outer s H args us vs Q E (r.mono h)⟩
/-- the context of a def's body; no exception leaves it -/
def bX (P : Program) (w : World) (K : PySem.W.Frag) (mg : Str → Option Value) (base : Heap) (N : List Str) (qual : Str) (scope : Scope) (f : Addr) (cd : Value) (A : Around) (outer : List Env) (s : Shared) (H : Hp) (E : XK) : Cx :=
  (cxOf CX0 P w K mg base N qual scope f cd A outer s H E).nox
def startD (N : List Str) (xs : List SD) : DE := xs.map some ++ List.replicate (N.length - xs.length) none
theorem env_start {K : PySem.W.Frag} {G : Hp} {N : List Str} {vs : List V} {xs : List SD} (r : DSs K G vs xs) : EnvD K G (L2.start N vs) (startD N xs) := by
  have hl := r.length
  refine ⟨by unfold L2.start startD; rw [List.length_append, List.length_append, List.length_map, List.length_map, List.length_replicate, List.length_replicate, hl], fun i d h => ?_⟩
  unfold startD at h
  unfold L2.start
  by_cases hi : i < xs.length
  · rw [List.getElem?_append_left (by rw [List.length_map]; exact hi), List.getElem?_map] at h
    rw [List.getElem?_append_left (by rw [List.length_map, hl]; exact hi), List.getElem?_map]
    have get : ∀ {vs : List V} {xs : List SD} {i : Nat} {d : SD}, DSs K G vs xs → xs[i]? = some d → ∃ v, vs[i]? = some v ∧ DS K G v d := by
      intro vs xs i d r
      induction r generalizing i with
      | nil => intro e; simp at e
      | cons a b ih =>
        intro e
        cases i with
        | zero => simp at e; subst e; exact ⟨_, rfl, a⟩
        | succ i => exact ih (i := i) (by simpa using e)
    cases e : xs[i]? with
    | none => rw [e] at h; cases h
    | some d' =>
      rw [e] at h
      cases h
      obtain ⟨v, h1, h2⟩ := get r e
      exact ⟨v, by rw [h1]; rfl, h2⟩
  · rw [List.getElem?_append_right (by rw [List.length_map]; omega), List.getElem?_replicate] at h
    split at h <;> cases h
section
variable {X : Cx} {ds : DE} {m : MS} {e : Expr} {es : List Expr} {pos : Pos} {k : Nat} {f : Addr} {fd : FuncData} {ps : List Str} {F : FT} {x : Str} {p : Pos}
/-- what a call of a def comes to, by values -/
theorem run_fnG {CX : CXT} {sp : Sp} {E : XK} {pins : List (Addr × Obj)} {σ : L2.St} {H : Hp} {s : Shared} {Q : VK} {args : Args} {us : List Value} {vs : List V} (FO : FnG X.prog X.w X.K X.mg X.base CX k f fd ps sp) (hr : Rm k X.A) (hb : BindsTo s fd args (ps.zip us)) (hx : Passes CX X E)
    (J : Inv X pins σ H s) (r : Vals vs us) (h : sp vs H Q E) : codeAny (model X.prog X.w) X.A (.call (.ref f) args) (fun r s' => match r with | .ok (.ret u) => EP X pins σ Q u s' | .ok _ => False | .error e => X.xe e s') s := by
  refine codeAny_mono (FO.go X.A X.stack s H args us vs Q E hr J.env0 hb r h) fun rr s' hq => ?_
  match rr, hq with
  | .error e, hq => exact hx pins σ H s e s' J hq
  | .ok (.ret u), hq => exact J.after hq
  | .ok .next, hq => exact hq
  | .ok .brk, hq => exact hq
  | .ok .cont, hq => exact hq
theorem wg_call {P : SD → MS → Prop} (FO : FnG X.prog X.w X.K X.mg X.base CX0 k f fd ps (SpD X.K F)) (hr : Rm k X.A) (hm : X.mg x = some (.ref f)) (hk : PySem.W.keepIn X.K (.ref f) = true) (hb : Binds X.K fd ps [])
    (h : WA X (e :: es) ds m fun xs m1 => ∃ fr mc, m1 = fr ++ mc ∧ F xs mc fun d m2 => P d (fr ++ m2)) (hg : Gl X x := by rfl) (hdb : (x == ("__debug__" : Str)) = false := by decide)
    (he : starEach (e :: es) X.env = (false, eval e X.env) :: starEach es X.env := by rfl) (hpl : (backTo pos (starEach es X.env)).any (·.1) = false := by rfl) : WE X (.Call (.Name x p) (e :: es) [] pos) ds m P := fun σ G H E w Q q => by
  intro pins s J
  refine wpAny_Call_Name_kw (ld_glob J hg hm ?_ hdb)
  refine PySem.W.callWith_K (h₀ := X.base) J.ok.mod.kin hk (thn (h σ G H E w (fun vs H1 => SpD X.K F vs H1 Q E0) (fun vs xs m1 G1 H1 g1 r1 ⟨fr, mc, e1, hF⟩ => ?_) pos pins s J) fun us s1 ⟨vs, H1, J1, r, hsp⟩ => ⟨J1.kIn, ?_⟩) he hpl
  · subst e1
    exact ⟨G1, mc, xs, _, g1.wd.sub, r1, hF, fun v d m' G' H' g2 r2 p => q v d _ G' H' (g1.trans (Gr.frame g1.wd g2)) r2 p⟩
  · have hl : us.length = ps.length := by rw [← r.length]; exact FO.len _ _ _ _ hsp
    have b0 := hb s1 us J1.kIn (by rw [List.append_nil]; exact hl)
    rw [List.append_nil] at b0
    exact wpAny_call (codeAny_mono (run_fnG FO hr b0 pass0 J1 r hsp) fun rr s' hq => by
      match rr, hq with
      | .error e, hq => exact hq
      | .ok (.ret u), hq => exact hq
      | .ok .next, hq => exact hq.elim
      | .ok .brk, hq => exact hq.elim
      | .ok .cont, hq => exact hq.elim)
theorem eg_call {R : List SD → SD → Prop} {xs : List SD} {z : SD} (FO : FnG X.prog X.w X.K X.mg X.base CX0 k f fd ps (SpD X.K (pureF R))) (hr : Rm k X.A) (hm : X.mg x = some (.ref f)) (hk : PySem.W.keepIn X.K (.ref f) = true) (hb : Binds X.K fd ps [])
    (h : EA X (e :: es) ds xs) (hz : R xs z) (hg : Gl X x := by rfl) (hdb : (x == ("__debug__" : Str)) = false := by decide)
    (he : starEach (e :: es) X.env = (false, eval e X.env) :: starEach es X.env := by rfl) (hpl : (backTo pos (starEach es X.env)).any (·.1) = false := by rfl) : EE X (.Call (.Name x p) (e :: es) [] pos) ds z := fun m =>
  wg_call FO hr hm hk hb (h.to ⟨m, [], (List.append_nil m).symm, z, hz, rfl, List.append_nil m⟩) hg hdb he hpl
/-- the keywords' values -/
def EK (X : Cx) (kws : List Keyword) (ds : DE) (xs : List SD) : Prop := ∀ m σ G H, EnvD X.K G σ ds → Wd X.K m G H → ∀ Q : List V → Hp → Prop, (∀ vs G' H', Gr X.K m m G H G' H' → DSs X.K G' vs xs → Q vs H') →
  ∀ (pos : Pos) pins s, Inv X pins σ H s → wpAny (model X.prog X.w) X.A (evalAll ((backToKw pos (keywordEach kws X.env)).map (·.2))) (AP X pins σ Q) X.xe s
theorem ek_nil : EK X [] ds [] := fun m σ G H E w Q q pos pins s J => pk_nil.run pos pins s σ H Q J (q _ _ _ (.refl w) .nil)
theorem ek_cons {nm : Option Str} {kpos : Pos} {kws : List Keyword} {d : SD} {xs : List SD} (h : EE X e ds d) (h2 : EK X kws ds xs) : EK X (⟨nm, e, kpos⟩ :: kws) ds (d :: xs) := fun m σ G H E w Q q pos pins s J => by
  have p : PK X kws (fun σ H Q => ∀ (pos : Pos) pins s, Inv X pins σ H s → wpAny (model X.prog X.w) X.A (evalAll ((backToKw pos (keywordEach kws X.env)).map (·.2))) (AP X pins σ Q) X.xe s) := ⟨fun pos pins s σ H Q J h => h pos pins s J⟩
  refine (pk_cons (pE e) p).run pos pins s σ H Q J (h m σ G H E w _ fun v d' m1 G1 H1 g1 r1 ⟨e1, e2⟩ => ?_)
  subst e1 e2
  exact h2 m1 σ G1 H1 (E.mono g1.g) g1.wd _ fun vs G2 H2 g2 r2 => q _ _ _ (g1.trans g2) (.cons (ds_mono g2.g r1) r2)
end
/-! ### repr of plain data -/
section
variable {X : Cx} {ds : DE} {m : MS} {e : Expr} {pos p : Pos}
theorem call_repr_py (hg : X.A.guards = some []) {d : PyData} (hu : X.A.units + 64 < cLine) (hd : d.depth ≤ 50) (hs : d.showable = true) (hn : d.hasDict = false) (hz : d.shown.length ≤ sizeLine) :
    CallR X (.builtin "repr") (fun vs H Q => ∃ v, vs = [v] ∧ Dp X.K H v d ∧ Q (.str d.shown) H) := fun pins s σ H vs us Q J r ⟨v, e1, h, q⟩ => by
  subst e1
  obtain ⟨u, rfl, ru⟩ := r.one
  obtain ⟨as, rd⟩ := L2.Dp.reads J d v u (dp_l2 hn h) ru
  have fin : ∀ (h' : Heap) (tk0 tk : Nat), (∀ b o, s.heap.get? b = some o → h'.get? b = some o) → EP X pins σ Q (.str d.shown tk0) { s with heap := h', toks := tk } := fun h' u' tk hk => ⟨.str d.shown, H, J.kept hk, ⟨_, rfl⟩, q⟩
  cases v with
  | ref a =>
    obtain rfl : u = .ref a := ru
    exact repr_of_reads' (h₀ := s.heap) rd hs (fun z => by rw [hn] at z; cases z) hg (by omega) (fun _ _ e => e) (fun h' u' tk hk => fin h' u' tk hk) hz
  | int i =>
    cases h
    obtain ⟨t, rfl⟩ := ru
    exact PySem.P.repr_of_int (by simpa [PyData.showable] using hs) (fin s.heap _ _ fun _ _ e => e)
  | str x =>
    cases h
    obtain ⟨t, rfl⟩ := ru
    exact PySem.P.repr_of_str (fin s.heap _ _ fun _ _ e => e) hz
  | bl b =>
    cases h
    obtain rfl : u = .bool b := ru
    exact PySem.P.repr_of_bool (fin s.heap _ _ fun _ _ e => e)
  | non =>
    cases h
    obtain rfl : u = .none := ru
    exact PySem.P.repr_of_none (fin s.heap _ _ fun _ _ e => e)
  | _ => cases h
theorem ee_repr {d : PyData} (h : EE X e ds (.py d)) (hr : Rm 0 X.A) (hd : d.depth ≤ 50) (hs : d.showable = true) (hn : d.hasDict = false) (hz : d.shown.length ≤ sizeLine) (hm : X.mg "repr" = none) (hg : Gl X "repr" := by rfl) (he : starEach (e :: []) X.env = (false, eval e X.env) :: starEach [] X.env := by rfl) (hpl : (backTo pos (starEach [] X.env)).any (·.1) = false := by rfl) :
    EE X (.Call (.Name "repr" p) [e] [] pos) ds (.py (.str d.shown)) :=
  ee_callB (ea_cons h ea_nil he) (fun m => ⟨_, call_repr_py hr.g (by have := hr.r.un; omega) hd hs hn hz, fun G H vs w r Q q => by
    cases r with
    | cons r1 r2 =>
      cases r2
      cases r1 with
      | py r1 => exact ⟨_, rfl, dp_mono w.w r1, q _ _ _ (.refl w) (.py (.str _))⟩⟩) hm (by decide +kernel) hg (by decide) (by decide) he hpl
end
end W9
namespace W9
open PySem PySem.Spec PyProof.Rows L2
/-! ### texts as lists of numbers -/
theorem str_len (l : List Nat) : (⟨l.toArray⟩ : Str).length = l.length := by show l.toArray.size = _; exact List.size_toArray ..
theorem str_app (a b : List Nat) : (⟨a.toArray⟩ : Str) ++ (⟨b.toArray⟩ : Str) = ⟨(a ++ b).toArray⟩ := by
  show (⟨a.toArray ++ b.toArray⟩ : Str) = _
  rw [List.append_toArray]
theorem str_inj {a b : List Nat} : ((⟨a.toArray⟩ : Str) = ⟨b.toArray⟩) ↔ a = b := ⟨fun h => by
  have h := congrArg (fun s => s.cps.toList) h
  simpa using h, fun h => by rw [h]⟩
theorem line_of {n : Nat} (h : n ≤ 1000000) : n ≤ sizeLine := Nat.le_trans h (by decide)
section
variable {X : Cx} {m : MS}
/-! ### operators -/
theorem b_int {op : Operator} {C : Int → Int → Prop} {g : Int → Int → Int} (ho : OpR X (binaryOp op) (rI C fun i j => .int (g i j))) {i j : Int} (hc : C i j) : BinD X op (I i) (I j) (I (g i j)) := ⟨_, ho, fun m G H v u w r1 r2 Q q => by
  cases ds_int r1
  cases ds_int r2
  exact ⟨i, j, rfl, rfl, hc, q _ _ _ (.refl w) (.py (.int _))⟩⟩
theorem b_int0 {op : Operator} {g : Int → Int → Int} (ho : OpR X (binaryOp op) (rI0 fun i j => .int (g i j))) {i j : Int} : BinD X op (I i) (I j) (I (g i j)) := ⟨_, ho, fun m G H v u w r1 r2 Q q => by
  cases ds_int r1
  cases ds_int r2
  exact ⟨i, j, rfl, rfl, q _ _ _ (.refl w) (.py (.int _))⟩⟩
theorem bd_add {i j : Int} : BinD X .Add (I i) (I j) (I (i + j)) := b_int0 op_add
theorem bd_sub {i j : Int} : BinD X .Sub (I i) (I j) (I (i - j)) := b_int0 op_sub
theorem bd_mul {i j : Int} (h : (-(2 ^ 64) < i ∧ i < 2 ^ 64) ∨ (-(2 ^ 64) < j ∧ j < 2 ^ 64)) : BinD X .Mult (I i) (I j) (I (i * j)) := b_int op_mul h
theorem bd_mod {i j : Int} (h : 0 < j) : BinD X .Mod (I i) (I j) (I (i % j)) := b_int op_mod h
theorem bd_div {i j : Int} (h : 0 < j ∧ j < 1073741824) : BinD X .FloorDiv (I i) (I j) (I (i / j)) := b_int op_fdiv h
theorem bd_pow {i j : Int} (h : 0 ≤ j ∧ j ≤ 1000000 ∧ i.natAbs < 2 ^ 64) : BinD X .Pow (I i) (I j) (I (i ^ j.toNat)) := b_int op_pow h
theorem op_powX : OpR X (binaryOp .Pow) (rI (fun i j => 0 ≤ j ∧ (Builtin.Int.intBits i : Int) * j ≤ 2 ^ 27) fun i j => .int (i ^ j.toNat)) := fun pins s σ H x y v u Q J rx ry ⟨i, j, e1, e2, ⟨h1, h2⟩, q⟩ => by
  subst e1 e2
  obtain ⟨t, rfl⟩ := rx
  obtain ⟨t', rfl⟩ := ry
  exact PyProof.Rows.pow_int h1 h2 ⟨.int _, H, J.tok _, ⟨_, rfl⟩, q⟩
theorem bd_powX {i j : Int} (h : 0 ≤ j ∧ (Builtin.Int.intBits i : Int) * j ≤ 2 ^ 27) : BinD X .Pow (I i) (I j) (I (i ^ j.toNat)) := b_int op_powX h
theorem bd_addS {a b : List Nat} (h : a.length + b.length ≤ 1000000) : BinD X .Add (S a) (S b) (S (a ++ b)) := ⟨_, op_add_str, fun m G H v u w r1 r2 Q q => by
  cases ds_str r1
  cases ds_str r2
  refine ⟨_, _, rfl, rfl, by rw [str_len, str_len]; exact line_of h, ?_⟩
  rw [str_app]
  exact q _ _ _ (.refl w) (.py (.str _))⟩
/-- a text said n times -/
def rep (n : Nat) (l : List Nat) : List Nat := (List.replicate n l).flatten
theorem rep_length (n : Nat) (l : List Nat) : (rep n l).length = n * l.length := by
  unfold rep
  induction n with
  | zero => simp
  | succ n ih => rw [List.replicate_succ, List.flatten_cons, List.length_append, ih, Nat.succ_mul]; omega
theorem fold_app (c : Array Nat) : ∀ (n : Nat) (acc : Array Nat), (List.replicate n c).foldl (· ++ ·) acc = acc ++ ((List.replicate n c.toList).flatten).toArray
  | 0, acc => by simp
  | n + 1, acc => by
    rw [List.replicate_succ, List.foldl_cons, fold_app c n, List.replicate_succ, List.flatten_cons]
    apply Array.ext'
    simp
theorem txt_mul (l : List Nat) (n : Int) : Txt.mul ⟨l.toArray⟩ n = ⟨(rep n.toNat l).toArray⟩ := by
  unfold Txt.mul
  by_cases h : n < 1
  · rw [if_pos h]
    have e : n.toNat = 0 := by omega
    rw [e]
    rfl
  · rw [if_neg h]
    by_cases h2 : (n == 1 || (⟨l.toArray⟩ : Str).length == 0) = true
    · rw [if_pos h2]
      rw [str_len] at h2
      simp only [Bool.or_eq_true, beq_iff_eq] at h2
      rcases h2 with h2 | h2
      · subst h2
        unfold rep
        simp
      · have e : l = [] := List.length_eq_zero_iff.mp h2
        subst e
        unfold rep
        simp
    · rw [if_neg h2, fold_app]
      unfold rep
      simp
theorem op_mulS : OpR X (binaryOp .Mult) (fun x y H Q => ∃ (l : List Nat) (n : Int), x = .str ⟨l.toArray⟩ ∧ y = .int n ∧ n ≤ 1000000 ∧ -1000000 ≤ n ∧ l.length * n.toNat ≤ 1000000 ∧ Q (.str ⟨(rep n.toNat l).toArray⟩) H) := fun pins s σ H x y v u Q J rx ry ⟨l, n, e1, e2, hn, hn2, hz, q⟩ => by
  subst e1 e2
  obtain ⟨t, rfl⟩ := rx
  obtain ⟨t', rfl⟩ := ry
  refine SB.mul ⟨?_, fun h1 h2 => ?_, fun h1 h2 => ?_⟩ fun t' k => ?_
  · simp only [Bool.or_eq_false_iff, decide_eq_false_iff_not]
    omega
  · rw [str_len]
    have h3 : (l.length : Int) ≤ 1000000 := by
      have h4 : l.length * 1 ≤ l.length * n.toNat := Nat.mul_le_mul_left _ (by omega)
      omega
    have h5 : (1000000 : Int) ≤ (2 ^ 63 - 1) / n := by
      rw [Int.le_ediv_iff_mul_le (by omega)]
      have : (1000000 : Int) * n ≤ 1000000 * 1000000 := Int.mul_le_mul_of_nonneg_left hn (by omega)
      omega
    omega
  · unfold Builtin.Str.tooLong
    rw [str_len]
    have := line_of hz
    simp only [decide_eq_false_iff_not]
    omega
  · rw [txt_mul]
    exact ⟨.str _, H, J.tok _, ⟨_, rfl⟩, q⟩
theorem bd_mulS {l : List Nat} {n : Int} (h : n ≤ 1000000 ∧ -1000000 ≤ n ∧ l.length * n.toNat ≤ 1000000) : BinD X .Mult (S l) (I n) (S (rep n.toNat l)) := ⟨_, op_mulS, fun m G H v u w r1 r2 Q q => by
  cases ds_str r1
  cases ds_int r2
  exact ⟨l, n, rfl, rfl, h.1, h.2.1, h.2.2, q _ _ _ (.refl w) (.py (.str _))⟩⟩
theorem op_catD : OpR X (binaryOp .Add) (fun x y H Q => ∃ a b xs ys, x = .ref a ∧ y = .ref b ∧ SqL X.K H a xs ∧ SqL X.K H b ys ∧ xs.length + ys.length ≤ 1000000 ∧ ∀ p, H p = none → Q (.ref p) (upd H p (.lst (xs ++ ys)))) := fun pins s σ H x y v u Q J rx ry ⟨a, b, xs, ys, e1, e2, h1, h2, hz, q⟩ => by
  subst e1 e2
  obtain rfl : v = .ref a := rx
  obtain rfl : u = .ref b := ry
  obtain ⟨its, r1, ⟨o1, n1, g1, c1, d1, e1⟩, z1⟩ := J.list h1
  obtain ⟨its2, r2, ⟨o2, n2, g2, c2, d2, e2⟩, z2⟩ := J.list h2
  obtain ⟨cl1, di1, da1, sl1⟩ := o1
  obtain ⟨cl2, di2, da2, sl2⟩ := o2
  obtain ⟨rfl, rfl, rfl⟩ : cl1 = .type "list" ∧ di1 = none ∧ da1 = .seq its.toArray n1 := ⟨c1, d1, e1⟩
  obtain ⟨rfl, rfl, rfl⟩ : cl2 = .type "list" ∧ di2 = none ∧ da2 = .seq its2.toArray n2 := ⟨c2, d2, e2⟩
  have hl : its.length + its2.length ≤ sizeLine := by rw [← r1.length, ← r2.length]; exact line_of hz
  have M := list_addW a b its.toArray its2.toArray n1 n2 none none sl1 sl2 (by simpa using hl)
  refine concat_meets (T := "list") ⟨_, g1, rfl⟩ ⟨_, g2, rfl⟩ noFill_list_add seq_list_add PySem.F.slot_list_add PySem.F.entry_list_add (PySem.F.args_list_add_2 _ _) M ⟨g1, g2, ?_⟩
  have e : its.toArray ++ its2.toArray = (its ++ its2).toArray := by simp
  rw [e]
  exact ⟨.ref _, _, J.lnew (t' := s.toks) (r1.append r2) (by rw [List.length_append]; exact line_of hz), rfl, q _ J.fresh⟩
theorem bd_catL {a b : List PyData} (h : a.length + b.length ≤ 1000000) : BinD X .Add (Ls a) (Ls b) (Ls (a ++ b)) := ⟨_, op_catD, fun m G H v u w r1 r2 Q q => by
  obtain ⟨p1, xs, rfl, h1, h2⟩ := ds_lst r1
  obtain ⟨p2, ys, rfl, h3, h4⟩ := ds_lst r2
  have l1 := dpa_length h2
  have l2 := dpa_length h4
  refine ⟨p1, p2, xs, ys, rfl, rfl, ex_l w.w h1, ex_l w.w h3, by omega, fun p hp => ?_⟩
  have g := Gr.new (o := .lst (xs ++ ys)) w hp
  exact q _ _ _ g (.py (.lst (SqL.of upd_same) (dpa_mono g.g (dpa_append h2 h4))))⟩
/-! ### comparisons -/
theorem c_int {op : CmpOp} {g : Int → Int → Bool} (ho : OpR X (compareOp op) (rI0 fun i j => .bl (g i j))) {i j : Int} : CmpD X op (I i) (I j) (g i j) := ⟨_, ho, fun m G H v u w r1 r2 Q q => by
  cases ds_int r1
  cases ds_int r2
  exact ⟨i, j, rfl, rfl, q _ _ _ (.refl w) (.py (.bl _))⟩⟩
theorem cd_lt {i j : Int} : CmpD X .Lt (I i) (I j) (decide (i < j)) := c_int op_lt
theorem cd_le {i j : Int} : CmpD X .LtE (I i) (I j) (decide (i ≤ j)) := c_int op_le
theorem cd_gt {i j : Int} : CmpD X .Gt (I i) (I j) (decide (j < i)) := c_int op_gt
theorem cd_ge {i j : Int} : CmpD X .GtE (I i) (I j) (decide (j ≤ i)) := c_int op_ge
theorem cd_eq {i j : Int} : CmpD X .Eq (I i) (I j) (decide (i = j)) := ⟨_, op_eq, fun m G H v u w r1 r2 Q q => by
  cases ds_int r1
  cases ds_int r2
  refine ⟨rfl, ?_⟩
  have e : decide (V.int i = V.int j) = decide (i = j) := decide_eq_decide.mpr ⟨V.int.inj, congrArg _⟩
  rw [e]
  exact q _ _ _ (.refl w) (.py (.bl _))⟩
theorem cd_ne {i j : Int} : CmpD X .NotEq (I i) (I j) (!decide (i = j)) := ⟨_, op_ne, fun m G H v u w r1 r2 Q q => by
  cases ds_int r1
  cases ds_int r2
  refine ⟨rfl, ?_⟩
  have e : decide (V.int i = V.int j) = decide (i = j) := decide_eq_decide.mpr ⟨V.int.inj, congrArg _⟩
  rw [e]
  exact q _ _ _ (.refl w) (.py (.bl _))⟩
theorem cd_eqS {a b : List Nat} : CmpD X .Eq (S a) (S b) (decide (a = b)) := ⟨_, op_eq, fun m G H v u w r1 r2 Q q => by
  cases ds_str r1
  cases ds_str r2
  refine ⟨rfl, ?_⟩
  have e : decide (V.str ⟨a.toArray⟩ = V.str ⟨b.toArray⟩) = decide (a = b) := decide_eq_decide.mpr ⟨fun h => str_inj.mp (V.str.inj h), fun h => by rw [h]⟩
  rw [e]
  exact q _ _ _ (.refl w) (.py (.bl _))⟩
theorem cd_neS {a b : List Nat} : CmpD X .NotEq (S a) (S b) (!decide (a = b)) := ⟨_, op_ne, fun m G H v u w r1 r2 Q q => by
  cases ds_str r1
  cases ds_str r2
  refine ⟨rfl, ?_⟩
  have e : decide (V.str ⟨a.toArray⟩ = V.str ⟨b.toArray⟩) = decide (a = b) := decide_eq_decide.mpr ⟨fun h => str_inj.mp (V.str.inj h), fun h => by rw [h]⟩
  rw [e]
  exact q _ _ _ (.refl w) (.py (.bl _))⟩
theorem cd_eqT {a b : Str} : CmpD X .Eq (.py (.str a)) (.py (.str b)) (decide (a = b)) := ⟨_, op_eq, fun m G H v u w r1 r2 Q q => by
  cases ds_str r1
  cases ds_str r2
  refine ⟨rfl, ?_⟩
  have e : decide (V.str a = V.str b) = decide (a = b) := decide_eq_decide.mpr ⟨fun h => V.str.inj h, fun h => by rw [h]⟩
  rw [e]
  exact q _ _ _ (.refl w) (.py (.bl _))⟩
theorem cd_neT {a b : Str} : CmpD X .NotEq (.py (.str a)) (.py (.str b)) (!decide (a = b)) := ⟨_, op_ne, fun m G H v u w r1 r2 Q q => by
  cases ds_str r1
  cases ds_str r2
  refine ⟨rfl, ?_⟩
  have e : decide (V.str a = V.str b) = decide (a = b) := decide_eq_decide.mpr ⟨fun h => V.str.inj h, fun h => by rw [h]⟩
  rw [e]
  exact q _ _ _ (.refl w) (.py (.bl _))⟩
theorem cd_ltS {a b : List Nat} : CmpD X .Lt (S a) (S b) (decide (a < b)) := ⟨_, op_lt_str, fun m G H v u w r1 r2 Q q => by
  cases ds_str r1
  cases ds_str r2
  exact ⟨_, _, rfl, rfl, q _ _ _ (.refl w) (.py (.bl _))⟩⟩
theorem cd_inS {c : Nat} {b : List Nat} : CmpD X .In (S [c]) (S b) (decide (c ∈ b)) := ⟨_, op_in_sign, fun m G H v u w r1 r2 Q q => by
  cases ds_str r1
  cases ds_str r2
  exact ⟨c, _, rfl, rfl, q _ _ _ (.refl w) (.py (.bl _))⟩⟩
theorem cd_notinS {c : Nat} {b : List Nat} : CmpD X .NotIn (S [c]) (S b) (!decide (c ∈ b)) := ⟨_, op_notIn_sign, fun m G H v u w r1 r2 Q q => by
  cases ds_str r1
  cases ds_str r2
  exact ⟨c, _, rfl, rfl, q _ _ _ (.refl w) (.py (.bl _))⟩⟩
def isNone : PyData → Bool
  | .none => true
  | _ => false
theorem dp_none {K : PySem.W.Frag} {G : Hp} {v : V} {d : PyData} (h : Dp K G v d) : decide (v = .non) = isNone d := by cases h <;> rfl
theorem cd_isN {d : PyData} : CmpD X .Is (.py d) N0 (isNone d) := ⟨_, op_isN, fun m G H v u w r1 r2 Q q => by
  cases ds_non r2
  cases r1 with
  | py r1 => exact ⟨rfl, by rw [dp_none r1]; exact q _ _ _ (.refl w) (.py (.bl _))⟩⟩
theorem cd_notN {d : PyData} : CmpD X .IsNot (.py d) N0 (!isNone d) := ⟨_, op_notN, fun m G H v u w r1 r2 Q q => by
  cases ds_non r2
  cases r1 with
  | py r1 => exact ⟨rfl, by rw [dp_none r1]; exact q _ _ _ (.refl w) (.py (.bl _))⟩⟩
/-! ### items -/
theorem at_nn {α : Type} {l : List α} {i : Int} {c : α} (h0 : 0 ≤ i) (h : l[i.toNat]? = some c) : atI l i = some c := by
  have hl := (List.getElem?_eq_some_iff.mp h).1
  unfold atI ixN
  rw [if_pos h0, if_pos (by omega)]
  exact h
theorem sd_str {l : List Nat} {i : Int} {c : Nat} (h : atI l i = some c) (hz : l.length ≤ 1000000) : SubD X m (S l) (I i) (S [c]) := ⟨_, ix_str, fun G H v u w r1 r2 Q q => by
  cases ds_str r1
  cases ds_int r2
  exact ⟨_, i, c, rfl, rfl, by rw [str_len]; exact line_of hz, h, q _ _ _ (.refl w) (.py (.str _))⟩⟩
theorem atI_dp {K : PySem.W.Frag} {G : Hp} {vs : List V} {l : List PyData} {i : Int} {d : PyData} (h : DpAll K G vs l) (e : atI l i = some d) : ∃ v, atI vs i = some v ∧ Dp K G v d := by
  have hl := dpa_length h
  unfold atI at e ⊢
  rw [hl]
  cases q : ixN l.length i with
  | none => rw [q] at e; cases e
  | some j =>
    rw [q] at e
    exact dpa_get h e
theorem sd_tup {l : List PyData} {i : Int} {d : PyData} (h : atI l i = some d) : SubD X m (Tp l) (I i) (.py d) := ⟨_, ix_tup, fun G H v u w r1 r2 Q q => by
  obtain ⟨a, xs, rfl, h1, h2⟩ := ds_tup r1
  cases ds_int r2
  obtain ⟨x, h3, h4⟩ := atI_dp h2 h
  exact ⟨a, xs, i, x, rfl, rfl, ex_t w.w h1, h3, q _ _ _ (.refl w) (.py h4)⟩⟩
theorem sd_lst {l : List PyData} {i : Int} {d : PyData} (h : atI l i = some d) : SubD X m (Ls l) (I i) (.py d) := ⟨_, ix_list, fun G H v u w r1 r2 Q q => by
  obtain ⟨a, xs, rfl, h1, h2⟩ := ds_lst r1
  cases ds_int r2
  obtain ⟨x, h3, h4⟩ := atI_dp h2 h
  exact ⟨a, xs, i, x, rfl, rfl, ex_l w.w h1, h3, q _ _ _ (.refl w) (.py h4)⟩⟩
/-! ### slices -/
def cut {α : Type} (l : List α) (lo hi : Option Int) : List α := (l.drop (HT.sIx l.length 0 lo)).take (HT.sIx l.length l.length hi - HT.sIx l.length 0 lo)
theorem sl_S {l : List Nat} {lo hi : Option Int} (hz : l.length ≤ 1000000) : SlD X m (S l) lo hi (S (cut l lo hi)) := ⟨_, sl_str, fun G H v w r1 Q q => by
  cases ds_str r1
  refine ⟨_, rfl, by rw [str_len]; exact line_of hz, ?_⟩
  have e : cutS ⟨l.toArray⟩ lo hi = ⟨(cut l lo hi).toArray⟩ := by
    unfold cutS cut
    rw [str_len]
  rw [e]
  exact q _ _ _ (.refl w) (.py (.str _))⟩
theorem sl_L {l : List PyData} {lo hi : Option Int} : SlD X m (Ls l) lo hi (Ls (cut l lo hi)) := ⟨_, sl_list, fun G H v w r1 Q q => by
  obtain ⟨a, xs, rfl, h1, h2⟩ := ds_lst r1
  refine ⟨a, xs, rfl, ex_l w.w h1, fun p hp => ?_⟩
  have g := Gr.new (o := .lst (cutV xs lo hi)) w hp
  refine q _ _ _ g (.py (.lst (SqL.of upd_same) (dpa_mono g.g ?_)))
  have hl := dpa_length h2
  unfold cutV cut
  rw [hl]
  exact dpa_take _ (dpa_drop _ h2)⟩
theorem cut_n0 {α : Type} (l : List α) (a : Nat) : cut l (some (a : Int)) none = l.drop a := by
  unfold cut
  rw [HT.sIx_nat, HT.sIx_none]
  by_cases h : l.length ≤ a
  · rw [List.drop_of_length_le (by omega), List.drop_of_length_le h]
    simp
  · rw [Nat.min_eq_left (by omega), List.take_of_length_le (by rw [List.length_drop]; omega)]
theorem cut_0n {α : Type} (l : List α) (b : Nat) : cut l none (some (b : Int)) = l.take b := by
  unfold cut
  rw [HT.sIx_nat, HT.sIx_none, List.drop_zero, Nat.sub_zero]
  by_cases h2 : b ≤ l.length
  · rw [Nat.min_eq_left h2]
  · rw [Nat.min_eq_right (by omega), List.take_length, List.take_of_length_le (by omega)]
end
end W9
namespace W9
open PySem PySem.Spec PyProof.Rows L2
section
variable {X : Cx} {m : MS}
/-! ### calls of what is built in -/
theorem ca_one {f : Value} {x z : SD} {r : List V → Hp → VK → Prop} (hc : CallR X f r) (h : ∀ G H v, Wd X.K m G H → DS X.K G v x → ∀ Q : VK, (∀ w G' H', Gr X.K m m G H G' H' → DS X.K G' w z → Q w H') → r [v] H Q) : CaD X f m [x] z := ⟨r, hc, fun G H vs w rs Q q => by
  cases rs with
  | cons r1 r2 =>
    cases r2
    exact h G H _ w r1 Q q⟩
theorem ca_two {f : Value} {x y z : SD} {r : List V → Hp → VK → Prop} (hc : CallR X f r) (h : ∀ G H v u, Wd X.K m G H → DS X.K G v x → DS X.K G u y → ∀ Q : VK, (∀ w G' H', Gr X.K m m G H G' H' → DS X.K G' w z → Q w H') → r [v, u] H Q) : CaD X f m [x, y] z := ⟨r, hc, fun G H vs w rs Q q => by
  cases rs with
  | cons r1 r2 => cases r2 with
    | cons r2 r3 =>
      cases r3
      exact h G H _ _ w r1 r2 Q q⟩
theorem ca_lenS {l : List Nat} (hz : l.length ≤ 1000000) : CaD X (.builtin "len") m [S l] (I l.length) := ca_one call_len_str fun G H v w r Q q => by
  cases ds_str r
  refine ⟨_, rfl, by rw [str_len]; exact line_of hz, ?_⟩
  rw [str_len]
  exact q _ _ _ (.refl w) (.py (.int _))
theorem ca_lenL {l : List PyData} : CaD X (.builtin "len") m [Ls l] (I l.length) := ca_one call_len fun G H v w r Q q => by
  obtain ⟨a, xs, rfl, h1, h2⟩ := ds_lst r
  exact ⟨_, xs.length, rfl, .inl ⟨xs, ex_l w.w h1, rfl⟩, by rw [dpa_length h2]; exact q _ _ _ (.refl w) (.py (.int _))⟩
theorem ca_lenT {l : List PyData} : CaD X (.builtin "len") m [Tp l] (I l.length) := ca_one call_len fun G H v w r Q q => by
  obtain ⟨a, xs, rfl, h1, h2⟩ := ds_tup r
  exact ⟨_, xs.length, rfl, .inr ⟨xs, ex_t w.w h1, rfl⟩, by rw [dpa_length h2]; exact q _ _ _ (.refl w) (.py (.int _))⟩
theorem ca_int {i : Int} : CaD X (.type "int") m [I i] (I i) := ca_one call_int1 fun G H v w r Q q => by
  cases ds_int r
  exact .inl ⟨i, rfl, q _ _ _ (.refl w) (.py (.int _))⟩
theorem ca_intB {i : Bool} : CaD X (.type "int") m [B i] (I (if i then 1 else 0)) := ca_one call_int1 fun G H v w r Q q => by
  cases ds_bl r
  exact .inr ⟨i, rfl, q _ _ _ (.refl w) (.py (.int _))⟩
theorem ca_abs {i : Int} : CaD X (.builtin "abs") m [I i] (I (if i < 0 then -i else i)) := ca_one call_abs fun G H v w r Q q => by
  cases ds_int r
  exact ⟨i, rfl, q _ _ _ (.refl w) (.py (.int _))⟩
theorem ca_max2 (hc : X.calm = true) {i j : Int} : CaD X (.builtin "max") m [I i, I j] (I (if j > i then j else i)) := ca_two (call_max2 hc) fun G H v u w r r2 Q q => by
  cases ds_int r
  cases ds_int r2
  exact ⟨i, j, rfl, q _ _ _ (.refl w) (.py (.int _))⟩
theorem ca_min2 (hc : X.calm = true) {i j : Int} : CaD X (.builtin "min") m [I i, I j] (I (if j < i then j else i)) := ca_two (call_min2 hc) fun G H v u w r r2 Q q => by
  cases ds_int r
  cases ds_int r2
  exact ⟨i, j, rfl, q _ _ _ (.refl w) (.py (.int _))⟩
theorem dpa_ints {K : PySem.W.Frag} {G : Hp} : ∀ {ns : List Int} {vs : List V}, DpAll K G vs (ns.map .int) → vs = ns.map V.int
  | [], _, h => by cases h; rfl
  | n :: ns, _, h => by
    cases h with
    | cons a b => cases a; rw [dpa_ints b]; rfl
theorem dpa_bools {K : PySem.W.Frag} {G : Hp} : ∀ {ns : List Bool} {vs : List V}, DpAll K G vs (ns.map .bool) → vs = ns.map V.bl
  | [], _, h => by cases h; rfl
  | n :: ns, _, h => by
    cases h with
    | cons a b => cases a; rw [dpa_bools b]; rfl
theorem dpa_strs {K : PySem.W.Frag} {G : Hp} : ∀ {ns : List Str} {vs : List V}, DpAll K G vs (ns.map .str) → vs = ns.map V.str
  | [], _, h => by cases h; rfl
  | n :: ns, _, h => by
    cases h with
    | cons a b => cases a; rw [dpa_strs b]; rfl
theorem ca_sum (hc : X.calm = true) {ns : List Int} : CaD X (.builtin "sum") m [Ls (ns.map .int)] (I ns.sum) := ca_one (cr_sum hc) fun G H v w r Q q => by
  obtain ⟨a, xs, rfl, h1, h2⟩ := ds_lst r
  rw [dpa_ints h2] at h1
  exact ⟨a, ns, rfl, ex_l w.w h1, q _ _ _ (.refl w) (.py (.int _))⟩
theorem ca_all (hc : X.calm = true) {ns : List Bool} : CaD X (.builtin "all") m [Ls (ns.map .bool)] (B (ns.all id)) := ca_one (cr_all hc) fun G H v w r Q q => by
  obtain ⟨a, xs, rfl, h1, h2⟩ := ds_lst r
  rw [dpa_bools h2] at h1
  exact ⟨a, ns, rfl, ex_l w.w h1, q _ _ _ (.refl w) (.py (.bl _))⟩
theorem ca_tupL {l : List PyData} : CaD X (.type "tuple") m [Ls l] (Tp l) := ca_one call_tuple_of fun G H v w r Q q => by
  obtain ⟨a, xs, rfl, h1, h2⟩ := ds_lst r
  refine ⟨a, xs, rfl, .inl ⟨ex_l w.w h1, fun p hp => ?_⟩⟩
  have g := Gr.new (o := .tup xs) w hp
  exact q _ _ _ g (.py (.tup upd_same (dpa_mono g.g h2)))
theorem ca_listL {l : List PyData} : CaD X (.type "list") m [Ls l] (Ls l) := ca_one call_list_of fun G H v w r Q q => by
  obtain ⟨a, xs, rfl, h1, h2⟩ := ds_lst r
  refine ⟨a, xs, rfl, .inl (ex_l w.w h1), fun p hp => ?_⟩
  have g := Gr.new (o := .lst xs) w hp
  exact q _ _ _ g (.py (.lst (SqL.of upd_same) (dpa_mono g.g h2)))
theorem ca_listT {l : List PyData} : CaD X (.type "list") m [Tp l] (Ls l) := ca_one call_list_of fun G H v w r Q q => by
  obtain ⟨a, xs, rfl, h1, h2⟩ := ds_tup r
  refine ⟨a, xs, rfl, .inr (ex_t w.w h1), fun p hp => ?_⟩
  have g := Gr.new (o := .lst xs) w hp
  exact q _ _ _ g (.py (.lst (SqL.of upd_same) (dpa_mono g.g h2)))
/-- list(text) -/
theorem vals_signs : ∀ (l : List Nat) (a : List Value), a.length = l.length → (∀ (j : Nat) v, a[j]? = some v → ∃ c u, l[j]? = some c ∧ v = Value.str ⟨#[c]⟩ u) → Vals (l.map fun c => V.str ⟨#[c]⟩) a
  | [], [], _, _ => .nil
  | [], _ :: _, h, _ => by simp at h
  | _ :: _, [], h, _ => by simp at h
  | c :: l, x :: a, h, hi => by
    obtain ⟨c', u, h1, h2⟩ := hi 0 x rfl
    have e : c = c' := by simpa using h1
    subst e h2
    exact .cons ⟨u, rfl⟩ (vals_signs l a (by simpa using h) fun j v e => by
      obtain ⟨c, u, h1, h2⟩ := hi (j + 1) v (by simpa using e)
      exact ⟨c, u, by simpa using h1, h2⟩)
theorem call_list_txt (hc : X.calm = true) : CallR X (.type "list") (fun vs H Q => ∃ l : List Nat, vs = [.str ⟨l.toArray⟩] ∧ l.length ≤ 1000000 ∧ ∀ p, H p = none → Q (.ref p) (upd H p (.lst (l.map fun c => V.str ⟨#[c]⟩)))) := fun pins s σ H vs us Q J r ⟨l, e1, hz, q⟩ => by
  subst e1
  obtain ⟨u, rfl, t, rfl⟩ := r.one
  refine call_list_str (J.ok.hd hc) _ t (fun h' tk acc c hk hp it => ?_) (by show l.toArray.size ≤ _; rw [List.size_toArray]; exact line_of hz)
  have rv : Vals (l.map fun c => V.str ⟨#[c]⟩) acc.toList := by
    obtain ⟨hs, hi⟩ := it
    refine vals_signs l _ (by rw [Array.length_toList, hs]; simp) fun j v e => ?_
    obtain ⟨c, u, h1, h2⟩ := hi j v (by simpa using e)
    exact ⟨c, u, by simpa using h1, h2⟩
  have new : ObjOk X.prog X.w (upd H s.heap.objs.size (.lst (l.map fun c => V.str ⟨#[c]⟩))) h' s.heap.objs.size (.lst (l.map fun c => V.str ⟨#[c]⟩)) := ⟨by rw [List.length_map]; exact line_of hz, acc.toList, c, rv, by rw [hp]⟩
  exact ⟨.ref s.heap.objs.size, _, J.laid (t' := tk) hk (Nat.le_refl _) new, rfl, q _ J.fresh⟩
theorem dpa_signs {K : PySem.W.Frag} {G : Hp} : ∀ (l : List Nat), DpAll K G (l.map fun c => V.str ⟨#[c]⟩) (l.map fun c => PyData.str ⟨[c].toArray⟩)
  | [] => .nil
  | c :: l => .cons (.str _) (dpa_signs l)
theorem ca_listS (hc : X.calm = true) {l : List Nat} (hz : l.length ≤ 1000000) : CaD X (.type "list") m [S l] (Ls (l.map fun c => PyData.str ⟨[c].toArray⟩)) := ca_one (call_list_txt hc) fun G H v w r Q q => by
  cases ds_str r
  refine ⟨l, rfl, hz, fun p hp => ?_⟩
  have g := Gr.new (o := .lst (l.map fun c => V.str ⟨#[c]⟩)) w hp
  exact q _ _ _ g (.py (.lst (SqL.of upd_same) (dpa_signs l)))
/-! ### isinstance -/
/-- a built-in's name as a value -/
theorem ee_blt {ds : DE} {x : Str} {v : V} {u : Value} {pos : Pos} (hm : X.mg x = none) (hv : bootBuiltins x = some u) (r : RelV v u) (hg : Gl X x := by rfl) (hn : x ≠ "__name__" := by decide) (hd : (x == ("__debug__" : Str)) = false := by decide) : EE X (.Name x pos) ds (.raw v) :=
  ee_c (pe_bltn hg hm hv r hn hd) fun _ => .raw v
/-! ### methods of texts -/
theorem ty_str {l : List Nat} : ∀ G H v, Wd X.K m G H → DS X.K G v (S l) → tyV X.K "str" v H := fun G H v w r => by cases ds_str r; rfl
theorem md_index {l : List Nat} {c k : Nat} {rest : List Nat} (h : Builtin.Str.occurrences ⟨l.toArray⟩ ⟨#[c]⟩ 0 (⟨l.toArray⟩ : Str).length 1 = k :: rest) : MtD X "str" "str.index" m (S l) [S [c]] (I k) := ⟨ty_str, _, mt_sindex, fun G H v vs w r rs Q q => by
  cases ds_str r
  cases rs with
  | cons r1 r2 =>
    cases r2
    cases ds_str r1
    exact ⟨_, _, k, rest, rfl, rfl, h, q _ _ _ (.refl w) (.py (.int _))⟩⟩
/-- sep.join(texts) -/
def joinL (sep : List Nat) : List (List Nat) → List Nat
  | [] => []
  | [x] => x
  | x :: y :: r => x ++ sep ++ joinL sep (y :: r)
theorem joinL_nil : ∀ ls : List (List Nat), joinL [] ls = ls.flatten
  | [] => rfl
  | [x] => by simp [joinL]
  | x :: y :: r => by
    rw [joinL, joinL_nil (y :: r)]
    simp
theorem fold_join (sep : List Nat) : ∀ (r : List (List Nat)) (x : List Nat), (r.map fun l => (⟨l.toArray⟩ : Str)).foldl (fun acc p => acc ++ sep.toArray ++ p.cps) x.toArray = (joinL sep (x :: r)).toArray
  | [], x => rfl
  | y :: r, x => by
    rw [List.map_cons, List.foldl_cons]
    show (r.map fun l => (⟨l.toArray⟩ : Str)).foldl _ (x.toArray ++ sep.toArray ++ y.toArray) = _
    rw [List.append_toArray, List.append_toArray, fold_join sep r (x ++ sep ++ y)]
    cases r with
    | nil => rfl
    | cons z r => simp [joinL]
theorem txt_join (sep : List Nat) (ls : List (List Nat)) : Txt.join ⟨sep.toArray⟩ (ls.map fun l => ⟨l.toArray⟩) = ⟨(joinL sep ls).toArray⟩ := by
  unfold Txt.join Builtin.Str.glued
  cases ls with
  | nil => rfl
  | cons x r =>
    show (⟨(r.map fun l => (⟨l.toArray⟩ : Str)).foldl (fun acc p => acc ++ sep.toArray ++ p.cps) x.toArray⟩ : Str) = _
    rw [fold_join]
abbrev txts (ls : List (List Nat)) : List PyData := ls.map fun l => PyData.str ⟨l.toArray⟩
theorem md_join {sep : List Nat} {ls : List (List Nat)} (hz : (ls.map List.length).sum + ls.length * sep.length ≤ 1000000) : MtD X "str" "str.join" m (S sep) [Ls (txts ls)] (S (joinL sep ls)) := ⟨ty_str, _, mt_join, fun G H v vs w r rs Q q => by
  cases ds_str r
  cases rs with
  | cons r1 r2 =>
    cases r2
    obtain ⟨a, xs, rfl, h1, h2⟩ := ds_lst r1
    have e : txts ls = (ls.map fun l => (⟨l.toArray⟩ : Str)).map PyData.str := by rw [List.map_map]; rfl
    rw [e] at h2
    rw [dpa_strs h2] at h1
    refine ⟨_, a, _, rfl, rfl, .inl (ex_l w.w h1), ?_, ?_⟩
    · rw [List.map_map, List.length_map, str_len]
      have e2 : (ls.map (Str.length ∘ fun l => (⟨l.toArray⟩ : Str))) = ls.map List.length := List.map_congr_left fun l _ => str_len l
      rw [e2]
      omega
    · rw [txt_join]
      exact q _ _ _ (.refl w) (.py (.str _))⟩
end
/-! ### a dict that is owned: get -/
/-! ### enumerate of a text -/
def Iteu (x : Str) : It := ⟨fun i _ => i < x.cps.size, fun i H v H' => ∃ T c, v = .ref T ∧ H T = none ∧ H' = upd H T (.tup [.int (i : Nat), .str ⟨#[c]⟩]) ∧ x.cps[i]? = some c, fun i _ => i = x.cps.size⟩
theorem turn_enumS {P : Program} {w : World} {K : PySem.W.Frag} {elts : List Expr} {kk : Nat} {tpos : Pos} (e it : Addr) (x : Str) (t : Tok) :
    Turn P w K (.Tuple elts kk tpos) (Iteu x) [e, it] e (fun i h => (∃ old, IsEnum h e it ((i : Nat) : Int) old) ∧ h.IsStrIter it "str_ascii_iterator" x t i ∧ e ≠ it) where
  mem := by simp
  obj := fun i h st b hb => by
    obtain ⟨⟨old, he⟩, ⟨o, ho, hc, hd⟩, _⟩ := st
    rcases (show b = e ∨ b = it by simpa using hb) with z | z
    · subst z; exact ⟨_, he, fun v q => nomatch q⟩
    · subst z; exact ⟨o, ho, fun v q => by rw [hd] at q; cases q⟩
  keep := fun i h h' st k => let ⟨⟨old, he⟩, ⟨o, ho, hr⟩, hne⟩ := st; ⟨⟨old, k e (by simp) _ he⟩, ⟨o, k it (by simp) o ho, hr⟩, hne⟩
  item := by
    intro X hP hw hK hc i pins s σ H E J hf st hlt
    subst hP hw hK
    obtain ⟨⟨old, he⟩, hit, hne⟩ := st
    have hel : e < s.heap.objs.size := Heap.lt_size he
    have hil : it < s.heap.objs.size := by obtain ⟨_, q, _⟩ := hit; exact Heap.lt_size q
    have D := Draws.strAscii (prog := X.prog) (w := X.w) (A := X.A.in1) (J.ok.hd hc) it x t
    refine wpAny_pyNext_enum_itemD D he hit hlt hne (by simpa using hne) fun v h' tk hv ho hit' hT hsz hk => ?_
    obtain ⟨c, u, hcx, rfl⟩ := hv
    refine ⟨_, rfl, wpAny_letOwnedTupleGo_enum (s := { s with heap := h', toks := tk + 1 }) ho fun h2 he' sb => ?_⟩
    have far : ∀ {b}, b ∉ [e, it] → b ≠ e ∧ b ≠ it := fun {b} hb => ⟨fun z => hb (by simp [z]), fun z => hb (by simp [z])⟩
    have new : ObjOk X.prog X.w (upd H s.heap.objs.size (.tup [.int (i : Nat), .str ⟨#[c]⟩])) h2 s.heap.objs.size (.tup [.int (i : Nat), .str ⟨#[c]⟩]) :=
      ⟨by show 2 ≤ sizeLine; decide, [.int i tk, .str ⟨#[c]⟩ u], .cons ⟨_, rfl⟩ (.cons ⟨_, rfl⟩ .nil), ⟨_, (sb.2 _ (Nat.ne_of_gt hel)).trans hT, rfl, _, rfl⟩⟩
    have J1 := J.turnedNew (ch := [e, it]) (t' := tk + 1) (fun b ob hb q => (sb.2 b (far hb).1).trans (hk b ob (far hb).1 (far hb).2 q)) hf (Nat.le_refl _) new
    have hit2 : h2.IsStrIter it "str_ascii_iterator" x t (i + 1) := by
      obtain ⟨o, h1, hr⟩ := hit'
      exact ⟨o, (sb.2 it (Ne.symm hne)).trans h1, hr⟩
    have e1 : ((i + 1 : Nat) : Int) = (i : Int) + 1 := by omega
    have he2 : IsEnum h2 e it ((i + 1 : Nat) : Int) (Value.str ⟨#[c]⟩ u) := by rw [e1]; exact he'
    refine ⟨.ref s.heap.objs.size, _, J1, rfl, ⟨_, c, rfl, J.hok.fresh (Nat.le_refl _), rfl, hcx⟩, ⟨⟨_, he2⟩, hit2, hne⟩, fun b hb => ?_⟩
    have hb' : b < s.heap.objs.size := by
      rcases (show b = e ∨ b = it by simpa using hb) with z | z
      · rw [z]; exact hel
      · rw [z]; exact hil
    rw [upd_ne (Nat.ne_of_lt hb')]
    exact (hf b hb).1
  done := by
    intro X hP hw hK hc i pins s σ H E J hf st hstop
    subst hP hw hK
    obtain ⟨⟨old, he⟩, hit, hne⟩ := st
    obtain ⟨f0, f1, f2, f3, f4, f5⟩ := hf it (by simp)
    have D := Draws.strAscii (prog := X.prog) (w := X.w) (A := X.A.in1) (J.ok.hd hc) it x t
    have hn : i = x.cps.size := hstop
    subst hn
    exact wpAny_pyNext_enum_endD D he hit fun h' eb => ⟨rfl, J.turned (t' := s.toks) (fun b o hb q => eb b o hb q) f0 f1 f3 f4 f5⟩
  self := fun A i s Q E st h => let ⟨⟨_, he⟩, _⟩ := st; wpAny_pyIter_enum he h
def iEnumS (ta : TA) : TI := fun σ H R => ta σ H fun vs H1 => ∃ x : Str, vs = [.str x] ∧ x.cps.all (· < 128) = true ∧ R (Iteu x) H1
theorem pi_enumS {X : Cx} {e : Expr} {ta : TA} {p pos tpos : Pos} {elts : List Expr} {kk : Nat} (hg : Gl X "enumerate") (hm : X.mg "enumerate" = none) (ha : PA X [e] ta) (hs : starEach [e] X.env = [(false, eval e X.env)]) :
    PI X (.Tuple elts kk tpos) (.Call (.Name "enumerate" p) [e] [] pos) (iEnumS ta) := ⟨fun pins s σ H R J h => by
  refine Call_ (ld_blt J hg hm boot_enumerate (PyProof.Rows.callWith_type1 (thn (ha.run pos pins s σ H _ J h) fun us s1 ⟨vs, H1, J1, r1, x, ex, hx, q⟩ => ?_) hs rfl))
  subst ex
  obtain ⟨u, rfl, t, rfl⟩ := r1.one
  refine call_enumerate_str fun h' he hit hsz hk => wpAny_pyIter_enum he ?_
  have hty : strIterType x = "str_ascii_iterator" := by unfold strIterType; rw [if_pos hx]
  rw [hty] at hit
  refine ⟨s1.heap.objs.size + 1, [s1.heap.objs.size + 1, s1.heap.objs.size], _, _, H1, rfl, J1.kept (t' := s1.toks) hk, turn_enumS _ _ x t, ⟨⟨.none, he⟩, hit, Nat.succ_ne_self _⟩, fun b hb => ?_, q⟩
  have hle : s1.heap.objs.size ≤ b := by
    rcases (show b = s1.heap.objs.size + 1 ∨ b = s1.heap.objs.size by simpa using hb) with z | z
    · rw [z]; exact Nat.le_add_right _ _
    · rw [z]; exact Nat.le_refl _
  exact J1.fpOk hle (J1.hok.fresh hle)⟩
section
variable {X : Cx} {ds : DE} {e : Expr} {pos : Pos}
theorem ei_enumS {l : List Nat} {p tpos : Pos} {elts : List Expr} {kk : Nat} (h : EE X e ds (S l)) (ha : l.all (· < 128) = true) (hm : X.mg "enumerate" = none) (hg : Gl X "enumerate" := by rfl) (hs : starEach [e] X.env = [(false, eval e X.env)] := by rfl) :
    EI X (.Tuple elts kk tpos) (.Call (.Name "enumerate" p) [e] [] pos) ds (l.zipIdx.map fun (q : Nat × Nat) => Tp [.int (q.2 : Nat), .str ⟨[q.1].toArray⟩]) := fun m σ G H E w R' q => oI (pi_enumS hg hm (pa_cons (pE e) pa_nil (by rw [hs]; rfl)) hs) (h m σ G H E w _ fun v d m1 G1 H1 g1 r1 ⟨e1, e2⟩ => by
  subst e1 e2
  cases ds_str r1
  refine ⟨_, rfl, by simpa using ha, q (Iteu ⟨l.toArray⟩) _ _ _ _ g1 ⟨fun i H e hi => ?_, fun H e => ?_, fun i m' G' H' x H2 e w' hi y => ?_⟩ ⟨rfl, rfl⟩⟩
  · show i < l.toArray.size
    simpa using hi
  · show (l.zipIdx.map fun (q : Nat × Nat) => Tp [.int (q.2 : Nat), .str ⟨[q.1].toArray⟩]).length = l.toArray.size
    simp
  · obtain ⟨T, c, rfl, nT, rfl, hc⟩ := y
    have hc : l[i]? = some c := by simpa using hc
    have g3 := Gr.new (o := .tup [.int (i : Nat), .str ⟨#[c]⟩]) w' nT
    refine ⟨_, Tp [.int (i : Nat), .str ⟨[c].toArray⟩], g3, ?_, .py (.tup upd_same (.cons (.int _) (.cons (.str _) .nil)))⟩
    rw [List.getElem?_map, List.getElem?_zipIdx, hc]
    simp)
end
end W9
namespace W9
open PySem PySem.Spec PyProof.Rows L2
/-! ### the law's call from the top, for a def of this layer -/
section
variable {P : Program} {w : World} {K : PySem.W.Frag} {mg mb : Str → Option Value}
/-- what is tracked at the start: the script, where the module's own objects do not hold it -/
def scriptH (K : PySem.W.Frag) (a : Addr) (O : Obj) (ns : List Int) : Hp := fun b => if b = a ∧ K.lookup a = none then some (.frz O (.lst (ns.map V.int))) else none
theorem scriptH_some {a b : Addr} {O : Obj} {ns : List Int} {u : HO} (e : scriptH K a O ns b = some u) : b = a ∧ K.lookup a = none ∧ u = .frz O (.lst (ns.map V.int)) := by
  unfold scriptH at e
  split at e
  · next h => cases e; exact ⟨h.1, h.2, rfl⟩
  · cases e
theorem scriptH_ne {a b : Addr} {O : Obj} {ns : List Int} (h : b ≠ a) : scriptH K a O ns b = none := if_neg fun z => h z.1
theorem scriptH_K {a : Addr} {O : Obj} {ns : List Int} {o : Obj} (h : K.lookup a = some o) (b : Addr) : scriptH K a O ns b = none := if_neg fun z => by rw [h] at z; cases z.2
theorem dpa_of_ints {G : Hp} : ∀ ns : List Int, DpAll K G (ns.map V.int) (ns.map PyData.int)
  | [] => .nil
  | n :: ns => .cons (.int n) (dpa_of_ints ns)
end
/-! ### names of the module -/
section
variable {X : Cx} {ds : DE} {m : MS} {e a b c tg elt iter : Expr} {es : List Expr} {pos : Pos}
theorem ee_gint {x : Str} {i : Int} (h : ∃ t, X.mg x = some (.int i t)) (hg : Gl X x := by rfl) (hd : (x == ("__debug__" : Str)) = false := by decide) : EE X (.Name x pos) ds (I i) := let ⟨t, h⟩ := h; ee_glob (v := .int i) h ⟨t, rfl⟩ (fun _ => .py (.int i)) hg hd
theorem ee_gstr {x : Str} {l : List Nat} (h : ∃ t, X.mg x = some (.str ⟨l.toArray⟩ t)) (hg : Gl X x := by rfl) (hd : (x == ("__debug__" : Str)) = false := by decide) : EE X (.Name x pos) ds (S l) := let ⟨t, h⟩ := h; ee_glob (v := .str ⟨l.toArray⟩) h ⟨t, rfl⟩ (fun _ => .py (.str _)) hg hd
/-! ### comprehensions that are functions of data -/
/-- [elt for x in l] by a name, no filter -/
theorem ee_lcm {α : Type} {j : Nat} {x : Str} {tpos : Pos} {scope : Scope} (l : List α) (g : α → SD) (h : α → PyData) (own : List (Str × Nat)) (ho : own.map (·.2) = [j]) (hN : X.N.Nodup) (hi : EI X (.Name x tpos) iter ds (l.map g)) (hl : l.length ≤ 1000000)
    (turn : ∀ a ∈ l, AllBlk X scope fun Y => EE Y elt ((ds.set j none).set j (some (g a))) (.py (h a)))
    (wg : ∀ s H C cl fp d (ds : DE) m (Q : DE → MS → Prop), Q (ds.set j (some d)) m → WG (Blk X scope s H C cl fp) (.Name x tpos) [j] d ds m Q)
    (ok : BlkOk X.N X.env.scope scope own) (hc : X.calm = true := by rfl) (hs : ∀ x, foldedSetIterable iter X.env x = pure x := by intro _; rfl) : EE X (.ListComp elt [⟨.Name x tpos, iter, [], 0⟩] scope pos) ds (Ls (l.map h)) := fun m =>
  we_lc own hN (hi.to ⟨by rw [List.length_map]; exact hl, fun i acc m' => acc = (l.take i).map h ∧ m' = m, ⟨rfl, rfl⟩, fun i y acc m' hy _ ⟨e1, e2⟩ => by
    subst e1 e2
    rw [ho]
    rw [List.getElem?_map] at hy
    cases q : l[i]? with
    | none => rw [q] at hy; cases hy
    | some a =>
      rw [q] at hy
      have hy : g a = y := Option.some.inj hy
      subst hy
      refine fun s H C cl fp => wg _ _ _ _ _ _ _ _ _ fun s H C cl fp => wts_nil ?_
      rw [if_pos rfl]
      refine fun s H C cl fp => (turn a (List.mem_of_getElem? q) s H C cl fp).to ⟨_, rfl, ?_, rfl⟩
      rw [List.take_add_one, q, List.map_append]
      rfl, fun acc m' _ ⟨e1, e2⟩ => by
    rw [List.length_map, List.take_length] at e1
    exact ⟨by rw [e1], e2⟩⟩) ok hc hs
end
/-! ### pieces of lists of data -/
theorem cut_map {α β : Type} (f : α → β) (l : List α) (lo hi : Option Int) : cut (l.map f) lo hi = (cut l lo hi).map f := by
  unfold cut
  rw [List.length_map, List.map_take, List.map_drop]
/-! ### dict(pairs): owned -/
end W9
namespace W9
open PySem PySem.Spec PyProof.Rows L2
/-! ### cells: texts of digits below sixteen -/
def dig (w : Nat) : Nat := if w < 10 then 48 + w else 87 + w
abbrev C (ws : List Nat) : SD := S (ws.map dig)
def Ok (ws : List Nat) : Prop := ∀ w ∈ ws, w < 16
abbrev hexS : List Nat := [48, 49, 50, 51, 52, 53, 54, 55, 56, 57, 97, 98, 99, 100, 101, 102]
theorem Ok.dp {a : List Nat} (n : Nat) (ha : Ok a) : Ok (a.drop n) := fun w hw => ha w (List.mem_of_mem_drop hw)
theorem Ok.nil : Ok [] := fun w hw => nomatch hw
theorem Ok.one {w : Nat} (h : w < 16) : Ok [w] := fun x hx => by
  rw [List.mem_singleton] at hx; omega
theorem Ok.get {a : List Nat} {i w : Nat} (h : Ok a) (e : a[i]? = some w) : w < 16 := h w (List.mem_of_getElem? e)
theorem Ok.tail {x : Nat} {a : List Nat} (h : Ok (x :: a)) : Ok a := fun w hw => h w (List.mem_cons_of_mem _ hw)
theorem Ok.head {x : Nat} {a : List Nat} (h : Ok (x :: a)) : x < 16 := h x List.mem_cons_self
/-! ### numbers of cells -/
def num (ws : List Nat) : Nat := ws.foldl (fun a w => a * 16 + w) 0
/-- the last k cells of a number -/
def digs : Nat → Nat → List Nat
  | 0, _ => []
  | k + 1, n => (n / 16 ^ k % 16) :: digs k n
/-! ### sums -/
def sumW (f : Nat → Nat) : Nat → List Nat → Nat
  | _, [] => 0
  | i, w :: ws => (15 - w) * f i + sumW f (i + 1) ws
abbrev f0 : Nat → Nat := fun _ => 1
abbrev f1 : Nat → Nat := fun i => i + 1
abbrev f2 : Nat → Nat := fun i => (i + 1) * (i + 1)
/-! ### steps on cells -/
section
variable {X : Cx} {m : MS} {ds : DE} {e : Expr} {pos : Pos}
theorem rep_one (n w : Nat) : rep n [w] = List.replicate n w := by
  unfold rep
  induction n with
  | zero => rfl
  | succ n ih => rw [List.replicate_succ, List.flatten_cons, ih]; rfl
end
end W9
namespace W9
open PySem PySem.Spec PyProof.Rows L2
theorem map_get {α β : Type} {l : List α} {f : α → β} {i : Nat} {x : β} (h : (l.map f)[i]? = some x) : ∃ a, l[i]? = some a ∧ x = f a := by
  rw [List.getElem?_map] at h
  cases q : l[i]? with
  | none => rw [q] at h; cases h
  | some a => rw [q] at h; exact ⟨a, rfl, (Option.some.inj h).symm⟩
theorem B_eq {a b : Bool} (h : a = b) : B a = B b := by rw [h]
theorem get_lt {α : Type} {l : List α} {i : Nat} {a : α} (h : l[i]? = some a) : i < l.length := (List.getElem?_eq_some_iff.mp h).1
theorem flat_sing {α β : Type} (f : α → β) : ∀ l : List α, (l.map fun a => [f a]).flatten = l.map f
  | [] => rfl
  | a :: l => by rw [List.map_cons, List.flatten_cons, flat_sing f l]; rfl
section
variable {X : Cx} {m : MS} {ds : DE} {e : Expr} {pos : Pos}
theorem ca_allm (hc : X.calm = true) {α : Type} {l : List α} {p : α → Bool} : CaD X (.builtin "all") m [Ls (l.map fun a => PyData.bool (p a))] (B (l.all p)) := by
  have z : CaD X (.builtin "all") m [Ls ((l.map p).map .bool)] (B ((l.map p).all id)) := ca_all hc
  rw [List.map_map, List.all_map] at z
  exact z
end
section
variable {X : Cx} {m : MS} {ds : DE} {e c : Expr} {pos : Pos}
theorem ws_retE {E : ED} {d : SD} (h : EE X e ds d) (p : E.rt d m) : WS X (.Return (some e) pos) ds m E := ws_ret (h.to p)
theorem ws_setE {i : Nat} {x : Str} {pos' : Pos} {E : ED} {d : SD} (hN : X.N.Nodup) (h : EE X e ds d) (p : E.nx (ds.set i (some d)) m) (hi : X.N[i]? = some x := by rfl) (hx : Loc X.env.scope x := by first | exact Or.inl rfl | exact Or.inr rfl)
    (hs : swapsWith e (some (.Name x pos')) pos.line X.env = pure false := by rfl) (hf : X.fn x = true ∨ X.env.scope.names.lookup x = some .local := by first | exact .inl rfl | exact .inr rfl | assumption) : WS X (.Assign [.Name x pos'] e pos) ds m E :=
  ws_set hN (h.to p) hi hx hs hf
end
/-! ### page tails -/
abbrev cmpl (ws : List Nat) : List Nat := ws.map (15 - ·)
def tw (k n : Nat) : List Nat := digs k n ++ cmpl (digs k n)
def tailOf (a b c : Nat) : List Nat := tw 3 a ++ (tw 5 b ++ tw 7 c)
abbrev s0 (ws : List Nat) : Nat := sumW f0 0 (ws.take 226)
abbrev s1 (ws : List Nat) : Nat := sumW f1 0 (ws.take 226)
abbrev s2 (ws : List Nat) : Nat := sumW f2 0 (ws.take 226)
end W9
namespace W9
open PySem PySem.Spec PyProof.Rows L2
/-! ### signs of pages -/
def al (c : Nat) : Bool := c == 10 || (decide (32 ≤ c) && decide (c ≤ 36)) || (decide (38 ≤ c) && decide (c ≤ 126))
def OkT (t : List Nat) : Prop := ∀ c ∈ t, al c = true
theorem OkT.cons {c : Nat} {t : List Nat} (h : al c = true) (ht : OkT t) : OkT (c :: t) := fun x hx => by
  rcases List.mem_cons.mp hx with e | e
  · rw [e]; exact h
  · exact ht x e
theorem OkT.snoc {c : Nat} {t : List Nat} (ht : OkT t) (h : al c = true) : OkT (t ++ [c]) := fun x hx => by
  rcases List.mem_append.mp hx with e | e
  · exact ht x e
  · rw [List.mem_singleton] at e; rw [e]; exact h
/-! ### numbers by pairs of cells -/
def enc (t : List Nat) : List Nat := (t.map (digs 2)).flatten
def pairs : List Nat → List Nat
  | a :: b :: r => (a * 16 + b) :: pairs r
  | _ => []
/-! ### a text's cells; the text of cells -/
def cellsOf (t : List Nat) : List Nat := enc t ++ List.replicate (226 - 2 * t.length) 15
abbrev ps (ws : List Nat) : List Nat := pairs (ws.take 226)
def isT (ws t : List Nat) : Bool := t.all al && decide (ps ws = t ++ List.replicate (113 - t.length) 255)
def dec (ws : List Nat) : Option (List Nat) :=
  let t := (ps ws).takeWhile (· != 255)
  if isT ws t = true then some t else none
def sealT (t : List Nat) : List Nat := cellsOf t ++ tailOf (s0 (cellsOf t)) (s1 (cellsOf t)) (s2 (cellsOf t))
end W9
namespace W9
open PySem PySem.Spec PyProof.Rows L2
section
variable {X : Cx} {m : MS} {ds : DE} {e c a b tg elt iter : Expr} {es : List Expr} {pos : Pos}
theorem mset_head {p : Addr} {u v : OV} (h : p ∉ ad m) : mset ((p, u) :: m) p v = (p, v) :: m := by
  show (if p = p then (p, v) else (p, u)) :: m.map _ = _
  rw [if_pos rfl]
  congr 1
  refine (List.map_congr_left fun q hq => ?_).trans (List.map_id _)
  rw [if_neg fun z => h (by rw [← z]; exact mem_ad hq)]
  rfl
/-- a new list that is owned, and unlike what is owned already -/
theorem we_lstN {P : SD → MS → Prop} (h : WA X es ds m fun xs m1 => ∃ l, xs = l.map .py ∧ l.length ≤ 1000000 ∧ ∀ p, p ∉ ad m1 → P (.raw (.ref p)) ((p, .dl l) :: m1)) : WE X (.List es pos) ds m P := fun σ G H E w Q q => oE (pe_lst (pA es)) (by
  refine h σ G H E w _ fun vs xs m1 G1 H1 g1 r1 ⟨l, e1, hl, p⟩ => ?_
  subst e1
  have r2 := dss_py r1
  refine ⟨by rw [dpa_length r2]; exact Nat.le_trans hl (by decide), fun a ha => ?_⟩
  have g2 := Gr.made (o := .lst vs) (v := .dl l) g1.wd ha ⟨vs, rfl, r2⟩
  have fresh : a ∉ ad m1 := (List.nodup_cons.mp g2.wd.nd).1
  exact q _ _ _ _ _ (g1.trans g2) (.raw _) (p a fresh))
/-- y = [] -/
theorem ws_new {i : Nat} {x : Str} {pos' : Pos} {E : ED} (hN : X.N.Nodup) (h : ∀ p, p ∉ ad m → E.nx (ds.set i (some (.raw (.ref p)))) ((p, .dl []) :: m)) (hi : X.N[i]? = some x := by rfl) (hx : Loc X.env.scope x := by first | exact Or.inl rfl | exact Or.inr rfl)
    (hf : X.fn x = true ∨ X.env.scope.names.lookup x = some .local := by first | exact .inl rfl | exact .inr rfl | assumption) {p2 : Pos}
    (hs2 : swapsWith (.List [] pos) (some (.Name x pos')) p2.line X.env = pure false := by rfl) : WS X (.Assign [.Name x pos'] (.List [] pos) p2) ds m E :=
  ws_set hN (we_lstN (wa_nil ⟨[], rfl, by decide, h⟩)) hi hx hs2 hf
/-- append to what is owned at the head -/
theorem ws_appH {o : Expr} {apos cpos : Pos} {p : Addr} {l : List PyData} {d : PyData} {E : ED} (hp : p ∉ ad m) (ho : EE X o ds (.raw (.ref p))) (he : EE X e ds (.py d)) (hl : l.length < 1000000) (q : E.nx ds ((p, .dl (l ++ [d])) :: m))
    (hbase : attributeBase o "append" X.env (eval o X.env) = eval o X.env := by rfl)
    (hfew : ((backTo cpos (starEach (e :: []) X.env)).all (fun x => !x.1) && (backToKw cpos (keywordEach [] X.env)).all (fun x => x.1.isSome)
      && decide ((e :: ([] : List Expr)).length + ([] : List Keyword).length + (if ([] : List Keyword).isEmpty then 0 else 1) < 30)) = true := by rfl)
    (hline : (apos.endLine == cpos.line) = true := by rfl) (hs : starEach (e :: []) X.env = (false, eval e X.env) :: starEach [] X.env := by rfl) (hplain : (backTo cpos (starEach [] X.env)).any (·.1) = false := by rfl)
    (hsw : swapsWith (.Call (.Attribute o "append" apos) [e] [] cpos) none pos.line X.env = pure false := by rfl) : WS X (.Expr (.Call (.Attribute o "append" apos) [e] [] cpos) pos) ds ((p, .dl l) :: m) E :=
  ws_app ho ⟨l, List.mem_cons_self⟩ (he.to ⟨d, l, rfl, List.mem_cons_self, hl, by rw [mset_head hp]; exact q⟩) hbase hfew hline hs hplain hsw
theorem md_joinS {t : List Nat} (hz : t.length ≤ 1000000) : MtD X "str" "str.join" m (S []) [Ls (t.map fun c => PyData.str ⟨[c].toArray⟩)] (S t) := by
  have z : MtD X "str" "str.join" m (S []) [Ls (txts (t.map fun c => [c]))] (S (joinL [] (t.map fun c => [c]))) := md_join (by
    rw [List.map_map]
    have e : (t.map (List.length ∘ fun c => [c])) = t.map fun _ => 1 := List.map_congr_left fun _ _ => rfl
    rw [e]
    have e2 : ∀ t : List Nat, (t.map fun _ => 1).sum = t.length := fun t => by
      induction t with
      | nil => rfl
      | cons c t ih => rw [List.map_cons, List.sum_cons, ih, List.length_cons, Nat.add_comm]
    rw [e2]
    simpa using hz)
  have e1 : joinL [] (t.map fun c => [c]) = t := by
    rw [joinL_nil, flat_sing (fun c => c)]
    exact List.map_id' t
  rw [e1] at z
  unfold txts at z
  rw [List.map_map] at z
  exact z
/-- a comprehension over pairs of data -/
theorem ee_lct {α : Type} {j1 j2 : Nat} {x1 x2 : Str} {p1 p2 tpos : Pos} {kk : Nat} {scope : Scope} (l : List α) (g1 g2 : α → PyData) (h : α → PyData) (own : List (Str × Nat)) (ho : own.map (·.2) = [j1, j2]) (hN : X.N.Nodup)
    (hi : EI X (.Tuple [.Name x1 p1, .Name x2 p2] kk tpos) iter ds (l.map fun a => Tp [g1 a, g2 a])) (hl : l.length ≤ 1000000)
    (turn : ∀ a ∈ l, AllBlk X scope fun Y => EE Y elt ((((ds.set j2 none).set j1 none).set j1 (some (.py (g1 a)))).set j2 (some (.py (g2 a)))) (.py (h a)))
    (wg : ∀ s H C cl fp d1 d2 (ds : DE) m (Q : DE → MS → Prop), Q ((ds.set j1 (some (.py d1))).set j2 (some (.py d2))) m → WG (Blk X scope s H C cl fp) (.Tuple [.Name x1 p1, .Name x2 p2] kk tpos) [j1, j2] (Tp [d1, d2]) ds m Q)
    (ok : BlkOk X.N X.env.scope scope own) (hc : X.calm = true := by rfl) (hs : ∀ x, foldedSetIterable iter X.env x = pure x := by intro _; rfl) : EE X (.ListComp elt [⟨.Tuple [.Name x1 p1, .Name x2 p2] kk tpos, iter, [], 0⟩] scope pos) ds (Ls (l.map h)) := fun m =>
  we_lc own hN (hi.to ⟨by rw [List.length_map]; exact hl, fun i acc m' => acc = (l.take i).map h ∧ m' = m, ⟨rfl, rfl⟩, fun i y acc m' hy _ ⟨e1, e2⟩ => by
    subst e1 e2
    rw [ho]
    obtain ⟨a, q, rfl⟩ := map_get hy
    refine fun s H C cl fp => wg _ _ _ _ _ _ _ _ _ _ fun s H C cl fp => wts_nil ?_
    rw [if_pos rfl]
    refine fun s H C cl fp => (turn a (List.mem_of_getElem? q) s H C cl fp).to ⟨_, rfl, ?_, rfl⟩
    rw [List.take_add_one, q, List.map_append]
    rfl, fun acc m' _ ⟨e1, e2⟩ => by
    rw [List.length_map, List.take_length] at e1
    exact ⟨by rw [e1], e2⟩⟩) ok hc hs
end
end W9
namespace W9
open PySem PySem.Spec PyProof.Rows L2
/-! ### told sums -/
def wk : Nat → Nat
  | 0 => 3
  | 1 => 5
  | _ => 7
def atw : Nat → Nat
  | 0 => 226
  | i + 1 => atw i + 2 * wk i
abbrev told (ws : List Nat) (i : Nat) : List Nat := (ws.drop (atw i)).take (wk i)
abbrev nums (ws : List Nat) (i : Nat) : Nat := num (told ws i)
abbrev cnd (ws : List Nat) (i : Nat) : Prop := cmpl (told ws i) = (ws.drop (atw i + wk i)).take (wk i)
def told2 (ws : List Nat) : Option (Nat × Nat) := if cnd ws 0 ∧ cnd ws 1 then some (nums ws 0, nums ws 1) else none
/-! ### a lifted cell -/
abbrev w0 (ws : List Nat) (i : Nat) : Nat := ws.getD i 0
/-- of the reader's first two sums -/
def lift2 (ws : List Nat) : Option Nat :=
  match told2 ws with
  | none => none
  | some (a, b) =>
    let by_ : Int := (s0 ws : Int) - a
    let far : Int := (s1 ws : Int) - b
    let at_ := far / by_ - 1
    if (1 ≤ by_ ∧ by_ ≤ 15) ∧ (0 ≤ at_ ∧ at_ < 226) ∧ far = by_ * (at_ + 1) ∧ w0 ws at_.toNat + by_ ≤ 15 then some at_.toNat else none
def by2 (ws : List Nat) : Nat := s0 ws - nums ws 0
def lifted (ws : List Nat) (p : Nat) : List Nat := ws.set p (w0 ws p + by2 ws)
def unl (a b : List Nat) (lo n : Nat) : List Nat := ((List.range n).map (lo + ·)).filter fun p => decide (w0 a p ≠ w0 b p)
def fs (ws : List Nat) : Option (List Nat × Nat) :=
  match dec ws with
  | none => none
  | some t => match unl ws (sealT t) 226 30 with
    | [p] => if w0 ws p > w0 (sealT t) p then none else some (t, p)
    | _ => none
def fal (ws pg : List Nat) : Option Nat :=
  match unl ws pg 0 256 with
  | [p] => if w0 ws p < w0 pg p then some p else none
  | _ => none
abbrev tx (l : List Nat) : PyData := .str ⟨l.toArray⟩
abbrev nE : List Nat := [101, 109, 112, 116, 121]
abbrev nW : List Nat := [119, 104, 111, 108, 101]
abbrev nM : List Nat := [109, 101, 110, 100, 101, 100]
abbrev nT : List Nat := [116, 111, 114, 110]
def tryH (ws : List Nat) : Option (List Nat) → Option PyData
  | none => none
  | some t => if sealT t = ws then some (.tuple [tx nW, tx t]) else (fal ws (sealT t)).map fun p => .tuple [tx nM, tx t, .int p]
def lo (ws : List Nat) : PyData :=
  if ws = List.replicate 256 15 then .tuple [tx nE]
  else match tryH ws (dec ws) with
    | some r => r
    | none => match tryH ws ((lift2 ws).bind fun p => dec (lifted ws p)) with
      | some r => r
      | none => .tuple [tx nT]
end W9
namespace W9
open PySem PySem.Spec PyProof.Rows L2
theorem w0_of {ws : List Nat} {p v : Nat} (h : ws[p]? = some v) : w0 ws p = v := by
  simp [w0, List.getD, h]
theorem w0_set_same {ws : List Nat} {p v : Nat} (h : p < ws.length) : w0 (ws.set p v) p = v := w0_of (by rw [List.getElem?_set_self h])
theorem w0_set_ne {ws : List Nat} {p q v : Nat} (h : p ≠ q) : w0 (ws.set p v) q = w0 ws q := by
  simp [w0, List.getD, List.getElem?_set_ne h]
/-! ### bounds of the sums -/
/-! ### raising a cell -/
/-! ### places at which two pages are unlike -/
end W9
namespace W9
open PySem PySem.Spec PyProof.Rows L2
/-! ### both readers say the same of each page of cells -/
end W9
namespace W9
open PySem PySem.Spec PyProof.Rows L2
theorem EI.is {X : Cx} {tg e : Expr} {ds : DE} {xs ys : List SD} (h : EI X tg e ds xs) (q : xs = ys) : EI X tg e ds ys := by rw [← q]; exact h
theorem cut_le {α : Type} {l : List α} {lo hi : Option Int} {n : Nat} (h : l.length ≤ n) : (cut l lo hi).length ≤ n := by
  unfold cut
  rw [List.length_take, List.length_drop]
  omega
end W9
namespace W9
open PySem PySem.Spec PyProof.Rows L2
/-! ### a dict of signs by their numbers -/
/-! ### the reader's text -/
/-! ### the reader's answers -/
end W9
namespace W9
open PySem PySem.Spec PyProof.Rows L2
end W9
namespace W9
open PySem PySem.Spec PyProof.Rows L2
/-! ### reading what is owned: as if it were plain data, for scalars -/
def del (G : Hp) (p : Addr) : Hp := fun a => if a = p then none else G a
theorem del_same {G : Hp} {p : Addr} : del G p p = none := if_pos rfl
theorem del_ne {G : Hp} {p a : Addr} (h : a ≠ p) : del G p a = G a := if_neg h
section
variable {K : PySem.W.Frag} {m : MS} {G H G' H' : Hp} {p : Addr} {v : OV} {o : HO}
theorem Gr.view (w : Wd K m G H) (hp : (p, v) ∈ m) (ho : H p = some o) (g : Gr K [] [] (upd G p o) H G' H') : Gr K m m G H (del G' p) H' := by
  have gp : G p = none := (w.own _ hp).1
  have ex : Ex G (del G' p) := fun a u e => by
    have ne : a ≠ p := fun z => by rw [z, gp] at e; cases e
    rw [del_ne ne]
    exact g.g a u (by rw [upd_ne ne]; exact e)
  have keep : ∀ a u, H a = some u → H' a = some u := fun a u e => g.h a u (fun z => nomatch z) e
  have gone : ∀ a, G a = none → H a ≠ none → (∀ xs, H a ≠ some (.tup xs)) → del G' p a = none := fun a e f nt => by
    by_cases ne : a = p
    · rw [ne]; exact del_same
    · rw [del_ne ne]
      exact g.fr a (fun z => nomatch z) (by rw [upd_ne ne]; exact e) f nt
  refine ⟨ex, fun a u _ e => keep a u e, g.th, fun a _ e f nt => gone a e f nt, fun q hq => .inl (mem_ad hq), ⟨fun a u e => ?_, fun q hq => ?_, w.nd⟩⟩
  · have ne : a ≠ p := fun z => by rw [z, del_same] at e; cases e
    rw [del_ne ne] at e
    exact g.wd.w a u e
  · obtain ⟨h1, u, h2, h3⟩ := w.own q hq
    exact ⟨gone _ h1 (nn h2) (fun xs z => ov_nt h3 xs (by rw [h2] at z; exact Option.some.inj z)), u, keep _ _ h2, ov_mono ex h3⟩
theorem Wd.view (w : Wd K m G H) (hp : (p, v) ∈ m) (ho : H p = some o) : Wd K [] (upd G p o) H := by
  refine ⟨fun a u e => ?_, fun q hq => (nomatch hq), List.nodup_nil⟩
  by_cases z : a = p
  · subst z; rw [upd_same] at e; cases e; exact ho
  · rw [upd_ne z] at e; exact w.w a u e
end
def Scal (d : PyData) : Prop := ∀ (K : PySem.W.Frag) (G G' : Hp) (v : V), Dp K G v d → Dp K G' v d
theorem sc_int {i : Int} : Scal (.int i) := fun K G G' v h => by cases h; exact .int i
theorem sc_str {i : Str} : Scal (.str i) := fun K G G' v h => by cases h; exact .str i
section
variable {X : Cx} {m : MS} {ds : DE} {e c a b tg elt iter : Expr} {es : List Expr} {pos : Pos}
theorem we_view {i : Nat} {p : Addr} {l : List PyData} {d : PyData} {P : SD → MS → Prop} (hd : ds[i]? = some (some (.raw (.ref p)))) (hm : (p, OV.dl l) ∈ m) (h : EE X e (ds.set i (some (Ls l))) (.py d)) (sc : Scal d) (k : P (.py d) m) : WE X e ds m P := fun σ G H E w Q q => by
  obtain ⟨vs, h1, h2⟩ := own_get w hm
  obtain ⟨v, hv, hr⟩ := E.2 i _ hd
  cases ds_raw hr
  have exG : Ex G (upd G p (.lst vs)) := Ex.new (w.own _ hm).1
  have e1 : EnvD X.K (upd G p (.lst vs)) σ (ds.set i (some (Ls l))) := (E.mono exG).retype hv (.py (.lst (SqL.of upd_same) (dpa_mono exG h2)))
  exact h [] σ (upd G p (.lst vs)) H e1 (w.view hm h1) Q fun u d' m' G' H' g r ⟨z1, z2⟩ => by
    subst z1 z2
    refine q u _ m _ H' (Gr.view w hm h1 g) ?_ k
    cases r with
    | py r => exact .py (sc _ _ _ _ r)
theorem wt_view {i : Nat} {p : Addr} {l : List PyData} {k : Bool} {P : Bool → MS → Prop} (hd : ds[i]? = some (some (.raw (.ref p)))) (hm : (p, OV.dl l) ∈ m) (h : ET X e (ds.set i (some (Ls l))) k) (hk : P k m) : WT X e ds m P := fun σ G H E w Q q => by
  obtain ⟨vs, h1, h2⟩ := own_get w hm
  obtain ⟨v, hv, hr⟩ := E.2 i _ hd
  cases ds_raw hr
  have exG : Ex G (upd G p (.lst vs)) := Ex.new (w.own _ hm).1
  have e1 : EnvD X.K (upd G p (.lst vs)) σ (ds.set i (some (Ls l))) := (E.mono exG).retype hv (.py (.lst (SqL.of upd_same) (dpa_mono exG h2)))
  exact h [] σ (upd G p (.lst vs)) H e1 (w.view hm h1) Q fun b m' G' H' g ⟨z1, z2⟩ => by
    subst z1 z2
    exact q _ m _ H' (Gr.view w hm h1 g) hk
/-- p[j] = e, p owned at the head -/
theorem ws_storeV {o ix : Expr} {tpos : Pos} {i : Nat} {p : Addr} {l : List PyData} {j : Int} {d : PyData} {E : ED} (hpf : p ∉ ad m) (hd : ds[i]? = some (some (.raw (.ref p)))) (ho : EE X o ds (.raw (.ref p))) (hi : EE X ix ds (PySem.PyData.int j |> SD.py))
    (h : EE X e (ds.set i (some (Ls l))) (.py d)) (sc : Scal d) (h0 : 0 ≤ j) (hj : j < l.length) (q : E.nx ds ((p, .dl (l.set j.toNat d)) :: m))
    (ha : ∀ v, assign (.Subscript o ix tpos) X.env v = (do
      let ov ← holding [v] (eval o X.env)
      let iv ← holding [v, ov] (eval ix X.env)
      standAt tpos
      holding [v, ov, iv] (setItem ov iv v)
      release [v, ov, iv] []) := by intro _; rfl) (hs : swapsWithSole [.Subscript o ix tpos] e pos.line X.env = pure false := by rfl) (hw : swappedStores [.Subscript o ix tpos] e X.env = pure none := by rfl)
    (h1 : (assignEach [.Subscript o ix tpos] X.env).map (·.2) = [assign (.Subscript o ix tpos) X.env] := by rfl) : WS X (.Assign [.Subscript o ix tpos] e pos) ds ((p, .dl l) :: m) E :=
  ws_store ho hi (we_view hd List.mem_cons_self h sc ⟨d, l, rfl, List.mem_cons_self, h0, hj, by rw [mset_head hpf]; exact q⟩) ha hs hw h1
/-! ### list(range(n)) -/
theorem ee_listRg {n : Int} {p q : Pos} (h : EE X a ds (I n)) (hn : 0 ≤ n ∧ n ≤ 1000000) (hm : X.mg "list" = none) (hm2 : X.mg "range" = none) (hg : Gl X "list" := by rfl) (hg2 : Gl X "range" := by rfl) (hc : X.calm = true := by rfl)
    (na : starEach [a] X.env = (false, eval a X.env) :: starEach [] X.env := by rfl) (na2 : starEach [.Call (.Name "range" q) [a] [] p] X.env = (false, eval (.Call (.Name "range" q) [a] [] p) X.env) :: starEach [] X.env := by rfl) {p2 p3 : Pos} :
    EE X (.Call (.Name "list" p2) [.Call (.Name "range" q) [a] [] p] [] p3) ds (Ls ((List.range n.toNat).map fun (i : Nat) => PyData.int (i : Int))) := fun m σ G H E w Q k => oE (pe_listRg hc hg hm (prg_1 hg2 hm2 (pE a) na) na2) (h m σ G H E w _ fun v d m1 G1 H1 g1 r1 ⟨e1, e2⟩ => by
  subst e1 e2
  cases ds_int r1
  refine ⟨n, rfl, .of_le (by decide) (by omega) (by decide) hn.1, fun p hp => ?_⟩
  have g2 := Gr.new (o := .lst (rgV 0 n)) g1.wd hp
  have e : rgV 0 n = ((List.range n.toNat).map fun (i : Nat) => (i : Int)).map V.int := by
    unfold rgV
    rw [Int.sub_zero, List.map_map]
    exact List.map_congr_left fun i _ => by show V.int (0 + (i : Int)) = V.int (i : Int); rw [Int.zero_add]
  have e2 : ((List.range n.toNat).map fun (i : Nat) => PyData.int (i : Int)) = ((List.range n.toNat).map fun (i : Nat) => (i : Int)).map PyData.int := by
    rw [List.map_map]
    rfl
  rw [e] at g2 ⊢
  rw [e2] at k
  exact k _ _ _ _ _ (g1.trans g2) (.py (.lst (SqL.of upd_same) (dpa_of_ints _))) ⟨rfl, rfl⟩)
/-! ### comprehensions that change what is owned -/
theorem we_lcI {j : Nat} {x : Str} {tpos : Pos} {scope : Scope} {P : SD → MS → Prop} (Iv : Nat → List PyData → MS → Prop) (own : List (Str × Nat)) (ho : own.map (·.2) = [j]) (hN : X.N.Nodup)
    (h : WI X (.Name x tpos) iter ds m fun xs m1 => xs.length ≤ 1000000 ∧ Iv 0 [] m1 ∧
      (∀ i y acc m', xs[i]? = some y → acc.length ≤ i → Iv i acc m' → AllBlk X scope fun Y => WE Y elt ((ds.set j none).set j (some y)) m' fun d m4 => ∃ d', d = .py d' ∧ Iv (i + 1) (acc ++ [d']) m4) ∧ ∀ acc m', acc.length ≤ xs.length → Iv xs.length acc m' → P (Ls acc) m')
    (wg : ∀ s H C cl fp d (ds : DE) m (Q : DE → MS → Prop), Q (ds.set j (some d)) m → WG (Blk X scope s H C cl fp) (.Name x tpos) [j] d ds m Q)
    (ok : BlkOk X.N X.env.scope scope own) (hc : X.calm = true := by rfl) (hs : ∀ x, foldedSetIterable iter X.env x = pure x := by intro _; rfl) : WE X (.ListComp elt [⟨.Name x tpos, iter, [], 0⟩] scope pos) ds m P :=
  we_lc own hN (fun σ G H E w R' q => h σ G H E w R' fun J xs m' G' H' g it ⟨h1, h2, h3, h4⟩ => q J xs m' G' H' g it ⟨h1, Iv, h2, fun i y acc m' hy hl iv => by
    rw [ho]
    refine fun s H C cl fp => wg _ _ _ _ _ _ _ _ _ fun s H C cl fp => wts_nil ?_
    rw [if_pos rfl]
    exact h3 i y acc m' hy hl iv, h4⟩) ok hc hs
theorem sd_ints {l : List Int} {i : Int} (h0 : 0 ≤ i) (h : i < l.length) : SubD X m (Ls (l.map .int)) (I i) (I (l.getD i.toNat 0)) := sd_lst (at_nn h0 (by
  have hi : i.toNat < l.length := by omega
  rw [List.getElem?_map, List.getElem?_eq_getElem hi]
  simp [List.getD, hi]))
/-! ### repr of small data -/
structure Rep (d : PyData) : Prop where
  dp : d.depth ≤ 50
  sh : d.showable = true
  nd : d.hasDict = false
  lv : d.leavesShort 13 = true
  bk : d.bulk ≤ 2 ^ 20
theorem ee_reprR {d : PyData} {p : Pos} (h : EE X e ds (.py d)) (hr : Rm 0 X.A) (r : Rep d) (hm : X.mg "repr" = none) (hg : Gl X "repr" := by rfl) (he : starEach (e :: []) X.env = (false, eval e X.env) :: starEach [] X.env := by rfl) (hpl : (backTo pos (starEach [] X.env)).any (·.1) = false := by rfl) :
    EE X (.Call (.Name "repr" p) [e] [] pos) ds (.py (.str d.shown)) := ee_repr h hr r.dp r.sh r.nd (PyData.shown_fits_bulk (B := 13) (by decide) (by decide) r.lv r.bk) hm hg he hpl
end
theorem log_small {i : Nat} (h : i < 2 ^ 60) : i.log2 < 1920 := by
  by_cases z : i = 0
  · subst z; decide
  · have := (Nat.log2_lt z).mpr h
    omega
end W9
namespace W9
open PySem PySem.Spec PyProof.Rows L2
/-! ### the drawing hand -/
abbrev Pt (p : Addr) (a b c : Int) : Addr × OV := (p, .dl [.int a, .int b, .int c])
def PB (b : Int) : Prop := 0 ≤ b ∧ b < 2305843009213693921
section
variable {X : Cx} {m : MS} {ds : DE} {e c a b tg elt iter : Expr} {es : List Expr} {pos : Pos}
theorem WE.drop {P : SD → MS → Prop} (h : WE X e ds m fun d m1 => ∃ q m2, m1 = q :: m2 ∧ P d m2) : WE X e ds m P := fun σ G H E w Q k => h σ G H E w Q fun v d m1 G1 H1 g r ⟨q, m2, e1, p⟩ => by
  subst e1
  obtain ⟨qa, qv⟩ := q
  have g2 := Gr.drop g.wd
  exact k v d m2 G1 H1 (g.trans g2) r p
end
theorem ca_allT {X : Cx} {m : MS} {n : Nat} (hc : X.calm = true := by rfl) : CaD X (.builtin "all") m [Ls (List.replicate n (PyData.bool true))] (B true) := by
  have z : CaD X (.builtin "all") m [Ls ((List.replicate n true).map .bool)] (B ((List.replicate n true).all id)) := ca_all hc
  rw [List.map_replicate] at z
  have e : (List.replicate n true).all id = true := by
    rw [List.all_eq_true]
    intro x hx
    rw [List.eq_of_mem_replicate hx]
    rfl
  rw [e] at z
  exact z
abbrev prs : List Int := [2147483647, 2147483629, 2147483587, 2147483579, 2147483563]
theorem prs_pos (c : Int) : 0 < prs.getD (c % 5).toNat 0 ∧ prs.getD (c % 5).toNat 0 < 2147483648 := by
  have h : ∀ i, i < 5 → 0 < prs.getD i 0 ∧ prs.getD i 0 < 2147483648 := by decide
  exact h _ (by omega)
theorem sq_le {k c : Int} (hk : 0 ≤ k ∧ k ≤ 1000000) (hc : 0 ≤ c ∧ c ≤ 200000) : 0 ≤ k * c * c ∧ k * c * c ≤ 40000000000000000 := by
  have h1 : 0 ≤ k * c := Int.mul_nonneg hk.1 hc.1
  have h2 : k * c ≤ 1000000 * 200000 := Int.mul_le_mul hk.2 hc.2 hc.1 (by decide)
  have h3 : k * c * c ≤ (1000000 * 200000) * 200000 := Int.mul_le_mul h2 hc.2 hc.1 (by decide)
  have h4 := Int.mul_nonneg h1 hc.1
  omega
abbrev sgn (c : Nat) : PyData := .str ⟨[c].toArray⟩
end W9
/-! sorted(set(texts)) -/
namespace W9
open PySem PySem.Spec PyProof.Rows L2
section
variable {P : Program} {w : World} {A : Around} {E : Value → Shared → Prop} {s : Shared}
/-- the texts l, no one twice, lie as a set at a -/
def Bag (P : Program) (w : World) (a : Addr) (l : List Str) (h : Heap) : Prop :=
  ∃ D : PySem.Froz.SD, h.get? a = some (PySem.Froz.sObj "set" D) ∧ PySem.Froz.TxOk P w D l ∧ Ris D.2.2.place.toList ∧ (w.params.followText "set-order" = true ∨ D.2.2.led = true) ∧ l.Nodup
theorem Bag.keep {a : Addr} {l : List Str} {h h' : Heap} (b : Bag P w a l h) (k : ∀ o, h.get? a = some o → h'.get? a = some o) : Bag P w a l h' :=
  let ⟨D, h1, rest⟩ := b
  ⟨D, k _ h1, rest⟩
end
end W9
namespace W9
open PySem PySem.Spec PyProof.Rows L2
section
variable {P : Program} {w : World} {A : Around} {E : Value → Shared → Prop} {s : Shared}
theorem nat_off1 {a b c : Nat} (h : a < b) (e : c = b + 1) : a ≠ c := by omega
theorem nat_off2 {b c : Nat} (e : c = b + 1) : b ≠ c := by omega
theorem nat_off3 {a b : Nat} (h : a < b) : b ≠ a := by omega
/-- a set without members, as it is laid -/
abbrev emptyO (w : World) : Obj := { cls := .type "set", dict := none, data := .set #[] 0 (.fresh 0 0 (!w.params.followText "set-order")) }
abbrev withSet (w : World) (s : Shared) : Shared := { s with heap := s.heap.push (emptyO w) }
theorem with_at : (withSet w s).heap.get? s.heap.objs.size = some (emptyO w) := Heap.get?_push_size _ rfl
end
end W9
namespace W9
open PySem PySem.Spec PyProof.Rows L2
/-! ### zip of two texts of ascii signs -/
/-! #### zip(x, y) itself -/
end W9
namespace W9
open PySem PySem.Spec PyProof.Rows L2
end W9
namespace W9
open PySem PySem.Spec PyProof.Rows L2
/-! ### of two unlike sealed pages each is greater than the other at two places at least -/
end W9
namespace W9
open PySem PySem.Spec PyProof.Rows L2
/-! ### cells that lie below a sealed page at one place at most tell no other text -/
def Low1 (ws pg : List Nat) : Prop := ∀ q r, q < 256 → r < 256 → w0 ws q < w0 pg q → w0 ws r < w0 pg r → q = r
/-! ### raised, fallen -/
def Up (a b : List Nat) : Prop := ∀ q, q < 256 → w0 a q ≤ w0 b q
theorem Low1.refl (a : List Nat) : Low1 a a := fun q r _ _ g _ => by omega
/-- one cell otherwise, behind what is raised -/
theorem Low1.set {a pg : List Nat} {p v : Nat} (h : Up pg a) : Low1 (a.set p v) pg := fun q r hq hr g1 g2 => by
  have e : ∀ q, q < 256 → w0 (a.set p v) q < w0 pg q → q = p := fun q hq g => Classical.byContradiction fun z => by
    rw [w0_set_ne fun y => z y.symm] at g
    have := h q hq
    omega
  rw [e q hq g1, e r hr g2]
theorem Up.refl (a : List Nat) : Up a a := fun _ _ => Nat.le_refl _
theorem Up.trans {a b c : List Nat} (h : Up a b) (h2 : Up b c) : Up a c := fun q hq => Nat.le_trans (h q hq) (h2 q hq)
theorem Up.set {a b : List Nat} {p v : Nat} (hl : p < b.length) (h : Up a b) (hv : w0 a p ≤ v) : Up a (b.set p v) := fun q hq => by
  by_cases z : q = p
  · subst z; rw [w0_set_same hl]; exact hv
  · rw [w0_set_ne fun y => z y.symm]; exact h q hq
end W9
namespace W9
open PySem PySem.Spec PyProof.Rows L2
section
variable {X : Cx} {m : MS} {ds : DE} {e c a b tg elt iter : Expr} {es : List Expr} {pos : Pos}
/-- x in a tuple of data -/
theorem op_inTd (hu : X.A.units + 65 < cLine) : OpR X (compareOp .In) (fun x y H Q => ∃ d ds, Dp X.K H x d ∧ Dp X.K H y (.tuple ds) ∧ SeqAt.shaped d = true ∧ SeqAt.shaped (.tuple ds) = true ∧ Q (.bl (ds.any fun z => PyData.eqv z d)) H) := fun pins s σ H x y v u Q J rx ry ⟨d, ds, hd, he, sd, se, q⟩ => by
  obtain ⟨as, r1⟩ := L2.Dp.reads J d x v (dp_l2 (hd_shaped sd) hd) rx
  obtain ⟨bs, r2⟩ := L2.Dp.reads J (.tuple ds) y u (dp_l2 (hd_shaped se) he) ry
  exact SeqAt.in_tuple_reads r2 r1 (SeqAt.canLay_of_shaped se) (SeqAt.canLay_of_shaped sd) (room_in_shaped sd hu) ⟨.bl _, H, J, rfl, q⟩
theorem cd_inT (hr : Rm 0 X.A) {d : PyData} {l : List PyData} (sd : SeqAt.shaped d = true) (se : SeqAt.shaped (.tuple l) = true) : CmpD X .In (.py d) (Tp l) (l.any fun z => PyData.eqv z d) := ⟨_, op_inTd (by have := hr.r.un; omega), fun m G H v u w r1 r2 Q q => by
  cases r1 with
  | py r1 => cases r2 with
    | py r2 => exact ⟨d, l, dp_mono w.w r1, dp_mono w.w r2, sd, se, q _ _ _ (.refl w) (.py (.bl _))⟩⟩
end
end W9
namespace W9
open PySem PySem.Spec PyProof.Rows L2
section
variable {X : Cx} {m : MS} {ds : DE} {e c a b tg elt iter : Expr} {es : List Expr} {pos : Pos}
theorem ee_neg {i : Int} (h : EE X a ds (I i)) : EE X (.UnaryOp .USub a pos) ds (I (-i)) := fun m σ G H E w Q q => oE (pe_un un_neg (pE a)) (h m σ G H E w _ fun v d m1 G1 H1 g1 r1 ⟨e1, e2⟩ => by
  subst e1 e2
  cases ds_int r1
  exact ⟨i, rfl, q _ _ _ _ _ g1 (.py (.int _)) ⟨rfl, rfl⟩⟩)
abbrev cl (us : List Nat) : List PyData := (us.map dig).map sgn
end
/-! ### pieces of the table of cells -/
/-! ### torn -/
def torn (ws ps : List Nat) : List Nat := ws.zipIdx.map fun q => if w0 ps (q.2 % ps.length) ≤ q.1 then q.1 else w0 ps (q.2 % ps.length)
end W9
namespace W9
open PySem PySem.Spec PyProof.Rows L2
/-! ### each second item -/
end W9
/-! list(zip(a, b)) of two lists -/
namespace W9
open PySem PySem.Spec PyProof.Rows L2
section
variable {P : Program} {w : World} {A : Around} {E : Value → Shared → Prop} {s : Shared}
/-- the pairs so far -/
inductive Prs (h : Heap) (bad : List Addr) : List Addr → List Value → List Value → Prop
  | nil : Prs h bad [] [] []
  | snoc {Ts xs ys T x y} : Prs h bad Ts xs ys → IsPair h T x y → T ∉ Ts → T ∉ bad → Prs h bad (Ts ++ [T]) (xs ++ [x]) (ys ++ [y])
theorem Prs.keep {h h' : Heap} {bad : List Addr} (k : ∀ b o, b ∉ bad → h.get? b = some o → h'.get? b = some o) : ∀ {Ts xs ys}, Prs h bad Ts xs ys → Prs h' bad Ts xs ys
  | _, _, _, .nil => .nil
  | _, _, _, .snoc p q n b => .snoc (p.keep k) (k _ _ b q) n b
theorem Prs.here {h : Heap} {bad : List Addr} : ∀ {Ts xs ys}, Prs h bad Ts xs ys → ∀ T ∈ Ts, ∃ o, h.get? T = some o
  | _, _, _, .snoc p q n b, T, hT => by
    rcases List.mem_append.mp hT with z | z
    · exact p.here T z
    · rw [List.mem_singleton.mp z]
      exact ⟨_, q⟩
/-- where the zip stands: nothing handed out, or its tuple is still out -/
def ZAt (h : Heap) (z TI TO : Addr) : Prop := (IsZip h z TI TO .none ∧ ∃ a b, IsPair h TO a b) ∨ ∃ T f o, PySem.IsZipHeld h z TI TO T f ∧ h.get? T = some o
structure ZS (h0 h : Heap) (z TI TO i1 i2 l1 l2 S : Addr) (xs ys : Array Value) (i : Nat) (Ts : List Addr) : Prop where
  at_ : ZAt h z TI TO
  ti : IsPair h TI (.ref i1) (.ref i2)
  j1 : h.IsListIter i1 l1 i
  j2 : h.IsListIter i2 l2 i
  k1 : h.IsList l1 xs
  k2 : h.IsList l2 ys
  pr : Prs h [z, TO, i1, i2, S] Ts (xs.toList.take i) (ys.toList.take i)
  le : ∀ T ∈ Ts, h0.objs.size ≤ T
  old : ∀ b o, h0.get? b = some o → h.get? b = some o
/-- the list that gathers grows -/
theorem ZS.push {h0 h h' : Heap} {z TI TO i1 i2 l1 l2 S : Addr} {xs ys : Array Value} {i : Nat} {Ts : List Addr} (Z : ZS h0 h z TI TO i1 i2 l1 l2 S xs ys i Ts) (hS : S ∉ [z, TI, TO, i1, i2, l1, l2]) (hSz : h0.objs.size ≤ S)
    (k : ∀ c o, c ≠ S → h.get? c = some o → h'.get? c = some o) (th : ∃ o, h'.get? S = some o) : ZS h0 h' z TI TO i1 i2 l1 l2 S xs ys i Ts := by
  simp only [List.mem_cons, List.not_mem_nil, or_false, not_or] at hS
  obtain ⟨s1, s2, s3, s4, s5, s6, s7⟩ := hS
  refine ⟨?_, k _ _ (Ne.symm s2) Z.ti, Z.j1.at fun o e => k _ _ (Ne.symm s4) e, Z.j2.at fun o e => k _ _ (Ne.symm s5) e, Z.k1.at fun o e => k _ _ (Ne.symm s6) e, Z.k2.at fun o e => k _ _ (Ne.symm s7) e, Z.pr.keep fun b o hb e => k b o (fun q => hb (q ▸ by simp)) e, Z.le, fun b o e => k b o (Nat.ne_of_lt (Nat.lt_of_lt_of_le (Heap.lt_size e) hSz)) (Z.old b o e)⟩
  rcases Z.at_ with ⟨q1, a, b, q2⟩ | ⟨T, f, o, q1, q2⟩
  · exact .inl ⟨k _ _ (Ne.symm s1) q1, a, b, k _ _ (Ne.symm s3) q2⟩
  · by_cases e : T = S
    · obtain ⟨o', th⟩ := th
      exact .inr ⟨T, f, o', k _ _ (Ne.symm s1) q1, e ▸ th⟩
    · exact .inr ⟨T, f, o, k _ _ (Ne.symm s1) q1, k _ _ e q2⟩
end
end W9
namespace W9
open PySem PySem.Spec PyProof.Rows L2
end W9
namespace W9
open PySem PySem.Spec PyProof.Rows L2
end W9
namespace W9
open PySem PySem.Spec PyProof.Rows L2
/-- the pairs, from the front -/
inductive Al (h : Heap) : List Addr → List Value → List Value → Prop
  | nil : Al h [] [] []
  | cons {T x y Ts xs ys} : IsPair h T x y → Al h Ts xs ys → Al h (T :: Ts) (x :: xs) (y :: ys)
theorem Al.snoc {h : Heap} {T : Addr} {x y : Value} (p : IsPair h T x y) : ∀ {Ts xs ys}, Al h Ts xs ys → Al h (Ts ++ [T]) (xs ++ [x]) (ys ++ [y])
  | _, _, _, .nil => .cons p .nil
  | _, _, _, .cons q r => .cons q (r.snoc p)
end W9
namespace W9
open PySem PySem.Spec PyProof.Rows L2
/-! ### the rows of a text -/
section
variable {X : Cx} {ds : DE} {m : MS} {e a b : Expr} {es : List Expr} {pos p p2 q : Pos}
theorem dpa_txts {K : PySem.W.Frag} {G : Hp} : ∀ {ls : List (List Nat)} {vs : List V}, DpAll K G vs (txts ls) → vs = ls.map fun l => V.str ⟨l.toArray⟩
  | [], _, .nil => rfl
  | l :: ls, _, .cons (.str _) r => congrArg (V.str ⟨l.toArray⟩ :: ·) (dpa_txts r)
/-! ### isinstance -/
theorem tyx_tup {K : PySem.W.Frag} {H : Hp} {a : Addr} {xs : List V} (h : SqT K H a xs) : TyX K H (.ref a) (.type "tuple") := by
  rcases h with (h | ⟨o, h⟩) | ⟨o, its, n, h1, h2, _⟩
  · exact .base (.tup h)
  · exact .fTuple h
  · exact .kTuple h1 h2
theorem ca_isi {x : SD} {t u : String} {k : Bool} (ht : ∀ G H v, Wd X.K m G H → DS X.K G v x → TyX X.K H v (.type t)) (hk : PySem.W.kitOne X.K (.type t) (.type u) = some k) : CaD X (.builtin "isinstance") m [x, .raw (.ty u)] (B k) := ca_two call_isi fun G H v y w r r2 Q q => by
  cases ds_raw r2
  exact ⟨_, _, _, _, k, rfl, .ty u, ht G H v w r, hk, q _ _ _ (.refl w) (.py (.bl _))⟩
theorem kit_same {K : PySem.W.Frag} {t : String} : PySem.W.kitOne K (.type t) (.type t) = some true := if_pos (beq_self_eq_true _)
/-! ### == and in of data -/
theorem str_beq {a b : List Nat} : ((⟨a.toArray⟩ : Str) == ⟨b.toArray⟩) = decide (a = b) := by
  by_cases h : a = b
  · subst h; simp
  · rw [decide_eq_false h]
    exact beq_eq_false_iff_ne.mpr fun e => h (str_inj.mp e)
theorem eqvAll_txts : ∀ (a b : List (List Nat)), PyData.eqvAll (txts a) (txts b) = decide (a = b)
  | [], [] => rfl
  | [], _ :: _ => rfl
  | _ :: _, [] => rfl
  | x :: a, y :: b => by
    have ih := eqvAll_txts a b
    have e1 : PyData.eqv (.str ⟨x.toArray⟩) (.str ⟨y.toArray⟩) = decide (x = y) := by simp only [PyData.eqv]; exact str_beq
    show PyData.eqvAll (PyData.str ⟨x.toArray⟩ :: txts a) (PyData.str ⟨y.toArray⟩ :: txts b) = _
    simp only [PyData.eqvAll, e1, ih, List.cons.injEq]
    by_cases h1 : x = y <;> by_cases h2 : a = b <;> simp [h1, h2]
def Plain (ws : List (List Nat)) : Prop := ∀ w ∈ ws, ∀ c ∈ w, c < 1114112
theorem lay_str {w : List Nat} (h : ∀ c ∈ w, c < 1114112) : PyData.canLay0 (.str ⟨w.toArray⟩) = true := by
  simp only [PyData.canLay0, PyData.strOk]
  simpa using h
theorem lay_txts : ∀ {ws : List (List Nat)}, Plain ws → PyData.canLayAll0 (txts ws) = true
  | [], _ => rfl
  | w :: ws, h => by
    show PyData.canLayAll0 (PyData.str ⟨w.toArray⟩ :: txts ws) = true
    simp only [PyData.canLayAll0]
    rw [lay_str (h w List.mem_cons_self), lay_txts fun v hv => h v (List.mem_cons_of_mem _ hv)]
    rfl
theorem dep_txts : ∀ (ws : List (List Nat)), PyData.depthAll (txts ws) = 0
  | [] => rfl
  | w :: ws => by
    show max (PyData.depth (.str ⟨w.toArray⟩)) (PyData.depthAll (txts ws)) = 0
    rw [dep_txts ws]
    rfl
theorem sh_str {w : List Nat} (h : ∀ c ∈ w, c < 1114112) : SeqAt.shaped (.str ⟨w.toArray⟩) = true := by
  unfold SeqAt.shaped
  rw [lay_str h]
  rfl
theorem sh_lst {ws : List (List Nat)} (h : Plain ws) : SeqAt.shaped (.list (txts ws)) = true := by
  unfold SeqAt.shaped
  simp only [PyData.canLay0, PyData.depth, lay_txts h, dep_txts]
  decide
theorem sh_tp {ws : List (List Nat)} (h : Plain ws) : SeqAt.shaped (.tuple (txts ws)) = true := by
  unfold SeqAt.shaped
  simp only [PyData.canLay0, PyData.depth, lay_txts h, dep_txts]
  decide
theorem cd_neL (hr : Rm 0 X.A) {a b : List (List Nat)} (ha : Plain a) (hb : Plain b) : CmpD X .NotEq (Ls (txts a)) (Ls (txts b)) (!decide (a = b)) := ⟨_, op_neD (by have := hr.r.un; omega), fun m G H v u w r1 r2 Q q => by
  cases r1 with
  | py r1 =>
    cases r2 with
    | py r2 =>
      refine ⟨_, _, dp_l2 (hd_shaped (sh_lst ha)) (dp_mono w.w r1), dp_l2 (hd_shaped (sh_lst hb)) (dp_mono w.w r2), sh_lst ha, sh_lst hb, ?_⟩
      simp only [PyData.eqv, eqvAll_txts]
      exact q _ _ _ (.refl w) (.py (.bl _))⟩
theorem any_txts {w : List Nat} : ∀ (ws : List (List Nat)), ((txts ws).any fun z => PyData.eqv z (.str ⟨w.toArray⟩)) = decide (w ∈ ws)
  | [] => by simp
  | x :: ws => by
    have e1 : PyData.eqv (.str ⟨x.toArray⟩) (.str ⟨w.toArray⟩) = decide (x = w) := by simp only [PyData.eqv]; exact str_beq
    show (PyData.eqv (.str ⟨x.toArray⟩) (.str ⟨w.toArray⟩) || ((txts ws).any fun z => PyData.eqv z (.str ⟨w.toArray⟩))) = _
    rw [e1, any_txts ws]
    by_cases h1 : x = w
    · simp [h1]
    · simp [h1, Ne.symm h1]
theorem cd_inTs (hr : Rm 0 X.A) {w : List Nat} {ws : List (List Nat)} (hw : ∀ c ∈ w, c < 1114112) (hs : Plain ws) : CmpD X .In (S w) (Tp (txts ws)) (decide (w ∈ ws)) := by
  have h := cd_inT (X := X) hr (sh_str hw) (sh_tp hs)
  rw [any_txts] at h
  exact h
theorem inV_txts {w : List Nat} : ∀ (ws : List (List Nat)), inV (.str ⟨w.toArray⟩) (ws.map fun l => V.str ⟨l.toArray⟩) = decide (w ∈ ws)
  | [] => rfl
  | x :: ws => by
    show (eqV (.str ⟨x.toArray⟩) (.str ⟨w.toArray⟩) || inV (.str ⟨w.toArray⟩) (ws.map fun l => V.str ⟨l.toArray⟩)) = _
    rw [inV_txts ws]
    have e1 : eqV (.str ⟨x.toArray⟩) (.str ⟨w.toArray⟩) = decide (x = w) := by simp only [eqV]; exact str_beq
    rw [e1]
    by_cases h1 : x = w
    · simp [h1]
    · simp [h1, Ne.symm h1]
theorem cd_notinTs {w : List Nat} {ws : List (List Nat)} : CmpD X .NotIn (S w) (Tp (txts ws)) (!decide (w ∈ ws)) := ⟨_, op_notIn_seq, fun m G H v u wd r1 r2 Q q => by
  cases ds_str r1
  obtain ⟨a, xs, rfl, h1, h2⟩ := ds_tup r2
  have e := dpa_txts h2
  subst e
  refine ⟨a, _, rfl, .inr (ex_t wd.w h1), rfl, ?_, ?_⟩
  · simp [flatV]
  · rw [if_pos rfl, inV_txts]
    exact q _ _ _ (.refl wd) (.py (.bl _))⟩
end
end W9
namespace W9
open PySem PySem.Spec PyProof.Rows L2
/-! ### texts in their sequence, none twice -/
end W9
namespace W9
open PySem PySem.Spec PyProof.Rows L2
end W9
/-! the package's errors: class ToldError(ValueError) with super().__init__(value); self.value = value; classes over it -/
namespace W9
namespace Told
open PySem PySem.W PySem.Calls PyProof.Rows PySem.HandSPX
def iA (p1 p2 : Pos) : Arguments := { posonlyargs := [], args := [{ arg := "self", annotation := none, pos := p1 }, { arg := "value", annotation := none, pos := p2 }], vararg := none, kwonlyargs := [], kw_defaults := [], kwarg := none, defaults := [] }
def iB (q1 q2 q3 q4 q5 q6 q7 q8 q9 q10 : Pos) : List Stmt := [.Expr (.Call (.Attribute (.Call (.Name "super" q1) [] [] q2) "__init__" q3) [.Name "value" q4] [] q5) q6, .Assign [.Attribute (.Name "self" q7) "value" q8] (.Name "value" q9) q10]
def iS : Scope := { kind := .function, names := [(PySem.Str.ofString "self", .local), (PySem.Str.ofString "value", .local), (PySem.Str.ofString "__class__", .free), (PySem.Str.ofString "super", .globalImplicit)], isGenerator := false, isCoroutine := false, more := [] }
abbrev veMro : List Value := [.type "ValueError", .type "Exception", .type "BaseException", .type "object"]
/-- how super().__init__(value) is read, at its places -/
def CallRd (q1 q2 q3 q4 q5 : Pos) : Prop := ∀ (L f : Addr) (cd : Value) (cc : Addr), ∃ pl : Sem Bool, eval (.Call (.Attribute (.Call (.Name "super" q1) [] [] q2) "__init__" q3) [.Name "value" q4] [] q5) (ksEnv "ToldError.__init__" iS L f cd cc) = (do
      let ov ← attributeBase (.Call (.Name "super" q1) [] [] q2) "__init__" (ksEnv "ToldError.__init__" iS L f cd cc) (eval (.Call (.Name "super" q1) [] [] q2) (ksEnv "ToldError.__init__" iS L f cd cc))
      standAt q3.atName
      let (fn, first) ← holding [ov] (getMethod ov "__init__" pl)
      callWith q5 fn first (backTo q5 (starEach [.Name "value" q4] (ksEnv "ToldError.__init__" iS L f cd cc))) [])
/-- what the written part says of the first class, at D, of its __init__, at fI, of the cell, at cc -/
structure TxtD (P : Program) (K : Frag) (mg : Str → Option Value) (D fI cc : Addr) : Prop where
  su : mg "super" = none
  top : (P.main.scope.names.lookup ("super" : Str)).isSome = false
  st : nsIn K cStatics "thirdparty.any" = some none
  cD : ∃ cd, clsIn K D = some cd
  cel : ∃ cl cld csl, K.lookup cc = some ⟨cl, cld, .cell (some (.ref D)), csl⟩
  tI : typeIn K (.ref fI) = some (.type "function")
  fn : ∃ (oc : Value) (od : Option Addr) (doc pm : Value) (an : Option Addr) (cda : Addr) (ct : Value) (osl : Array (Option Value)) (p1 p2 q1 q2 q3 q4 q5 q6 q7 q8 q9 q10 : Pos),
    K.lookup fI = some ⟨oc, od, .func (ksFn "__init__" "ToldError.__init__" (iA p1 p2) (iB q1 q2 q3 q4 q5 q6 q7 q8 q9 q10) iS .none .none doc pm an (.ref cda) ct cc), osl⟩ ∧ codeIn K (.ref cda) "ToldError.__init__" = true ∧ CallRd q1 q2 q3 q4 q5 ∧
      ∃ ccl cdd vs ccs file tf, K.lookup cda = some ⟨ccl, cdd, .fields vs, ccs⟩ ∧ vs[2]? = some (.str file tf) ∧ ((P.main.file : Str) == file) = true
/-- what it says of a class over it, at C -/
structure TxtC (K : Frag) (D fI C : Addr) : Prop where
  cls : ∃ nm q N bs bm sn sub ab col dd k0 k1 k2 k3 k5, K.lookup C = some (excClassObj nm q C N bs bm true sn sub ab col dd k0 k1 k2 k3 k5 "ValueError.__new__") ∧ refsVE bm = true
  sup : ks_superIn K C D "__init__" = some (some (.builtin "ValueError.__init__"))
  mD : mroIn K C (.ref D) = some true
  ve : subIn K (.ref C) (.type "ValueError") = some true
  ini : excInitIn K C veMro "ValueError.__new__" = true
  sa : findIn K (.ref C) "__setattr__" = some (some (.builtin "object.__setattr__"))
  ga : findIn K (.ref C) "__getattribute__" = some (some (.builtin "BaseException.__getattribute__"))
  gg : findIn K (.ref C) "__getattr__" = some none
  noN : findIn K (.ref C) "value" = some none
  iC : findIn K (.ref C) "__init__" = some (some (.ref fI))
  kC : keepIn K (.ref C) = true
  exC : subIn K (.ref C) (.type "BaseException") = some true
  tyC : typeIn K (.ref C) = some (.type "type")
  hdC : hasDictIn K C = true
theorem one_size (v : Value) : [v].length ≤ sizeLine := by
  rw [sizeLine_eq]
  exact (by decide : 1 ≤ 16777216)
/-- what __init__ leaves of a fresh exception at x -/
structure InitEnd (h0 h' : Heap) (x C dx t1 : Addr) (v : Value) : Prop where
  keep : ∀ b o, h0.get? b = some o → h'.get? b = some o
  obj : h'.get? x = some { cls := .ref C, dict := some dx, data := .fields #[.ref t1, .none, .none, .none, .bool false, .none] }
  dbig : h0.objs.size ≤ dx
  dne : dx ≠ x
  ns : h'.Ns1 dx (fun y => if y = "value" then some v else none)
structure OwnMade (h h' : Heap) (e C d : Addr) (v : Value) : Prop where
  keep : ∀ b o, h.get? b = some o → h'.get? b = some o
  new : h.objs.size ≤ e
  obj : ∃ oe vs, h'.get? e = some oe ∧ oe.cls = .ref C ∧ oe.dict = some d ∧ oe.data = .fields vs ∧ vs[1]? = some .none
  dbig : h.objs.size ≤ d
  dne : d ≠ e
  ns : h'.Ns1 d (fun y => if y = "value" then some v else none)
section
variable {prog : Program} {w : World} {A : Around} {R : Result → Shared → Prop} {s : Shared} {K : Frag} {mg : Str → Option Value} {C D fI cc : Addr} {base h0 : Heap}
theorem ldK {M : Model} {s : Shared} {name : Str} {scope : Scope} {L a : Addr} {cd : Value} {cc : Addr} {m : Str → Option Value} {x : Str} {pos : Pos} {v : Value} {Q : Value → Shared → Prop} {A : Around} {E : Value → Shared → Prop} (hn : s.heap.Ns L m) (hv : m x = some v) (h : Q v s)
    (hk : scope.kind = .function := by rfl) (hl : (ksEnv name scope L a cd cc).kindOf x = some .local := by rfl) (hd : (x == ("__debug__" : Str)) = false := by decide) :
    wpAny M A (eval (.Name x pos) (ksEnv name scope L a cd cc)) Q E s := wpAny_Name (wpAny_loadName_local hk hl hn hv h) hd
/-- ToldError.__init__ of a fresh exception; h0: what stood ahead of it -/
theorem told_init (T : TxtD prog K mg D fI cc) (TC : TxtC K D fI C) (MD : L2.Mod K mg base) (hb0 : ∀ b o, base.get? b = some o → h0.get? b = some o) {x t0 : Addr} {v : Value} (X : K.In h0) (hk0 : ∀ b o, h0.get? b = some o → s.heap.get? b = some o) (hsz : h0.objs.size ≤ s.heap.objs.size) (hlim : s.heap.NoLimit)
    (hx : s.heap.get? x = some (excO C t0)) (hx0 : h0.get? x = none) (hroom : A.depth < recursionLimit)
    (hq : ∀ h' tk dx t1, InitEnd h0 h' x C dx t1 v → R (.ok (.ret .none)) { s with heap := h', toks := tk }) :
    codeAny (model prog w) A (.call (.ref fI) ⟨[.ref x, v], []⟩) R s := by
  obtain ⟨oc, od, doc, pm, an, cda, ct, osl, p1, p2, q1, q2, q3, q4, q5, q6, q7, q8, q9, q10, ho, hcd, hrd, ccl, cdd, vsf, ccs, file, tf, hcode, hvs, hfile⟩ := T.fn
  obtain ⟨nm, q, N, bs, bm, sn, sub, ab, col, dd, k0, k1, k2, k3, k5, hC, hbm⟩ := TC.cls
  obtain ⟨cdD, hcD⟩ := T.cD
  obtain ⟨cl, cld, csl, hcel⟩ := T.cel
  have hcl : clsIn K C = some { name := nm, bases := bs, mro := .ref C :: bm, ns := N, qualname := q, hasDict := true, slotNames := sn, subclasses := sub, abstract := ab, collection := col, hasDel := false } := by unfold clsIn; rw [hC] <;> rfl
  have Xs : K.In s.heap := X.keeps hk0
  refine ks_codeAny_call_defAt (fd := ksFn "__init__" "ToldError.__init__" (iA p1 p2) (iB q1 q2 q3 q4 q5 q6 q7 q8 q9 q10) iS .none .none doc pm an (.ref cda) ct cc) (body := iB q1 q2 q3 q4 q5 q6 q7 q8 q9 q10) (binds := [("self", .ref x), ("value", v)]) hroom (Xs _ _ ho) rfl hlim (codeRec_of Xs hcd) rfl
    (BindsTo.of_eq (by first | rfl | with_unfolding_all rfl)) (show ∀ y ∈ iS.names, y.2 ≠ NameKind.cell by decide) (fun y hy => ?_) (fun h₁ hns hk₁ => ?_)
  · rcases List.mem_cons.mp hy with rfl | hy
    · rfl
    · cases List.mem_singleton.mp hy
      rfl
  have hL : s.heap.objs.size ≠ x := Nat.ne_of_gt (Heap.lt_size hx)
  have hx₁ := hk₁ _ _ hx
  have F : Fr h0 s.heap.objs.size h₁ (fun y => ([("self", .ref x), ("value", v)] : List (Str × Value)).reverse.lookup y) := ⟨hns, fun b o e => hk₁ b o (hk0 b o e), hsz⟩
  have Nw : News h0 s.heap.objs.size h₁ [(x, excObj C t0 none .none)] := fun p hp => by
    cases List.mem_singleton.mp hp
    exact ⟨hx₁, Ne.symm hL, hx0⟩
  show PySem.wpAt _ (A.deeper (ksEnv "ToldError.__init__" iS s.heap.objs.size fI (.ref cda) cc)) (.func (iB q1 q2 q3 q4 q5 q6 q7 q8 q9 q10) (ksEnv "ToldError.__init__" iS s.heap.objs.size fI (.ref cda) cc)) (execs (iB q1 q2 q3 q4 q5 q6 q7 q8 q9 q10) (ksEnv "ToldError.__init__" iS s.heap.objs.size fI (.ref cda) cc)) _ _ _
  have X₁ : K.In h₁ := X.keeps F.keep
  obtain ⟨oD, hD1, hD2⟩ : ∃ oD, h₁.get? D = some oD ∧ oD.data = .cls cdD := by
    unfold clsIn at hcD
    split at hcD
    · rename_i c d cd' sl ho
      cases hcD
      exact ⟨_, X₁ _ _ ho, rfl⟩
    · cases hcD
  refine ks_wpAt_execs_cons (ks_wpAt_Expr_any ?_)
  obtain ⟨pl, hpl⟩ := hrd s.heap.objs.size fI (.ref cda) cc
  refine ks_wpAt_MethodCall (pl := pl) ?_ hpl
  obtain ⟨mb, hmb, hmb2⟩ := MD.blt
  refine ks_wpAt_super_base (env := ksEnv "ToldError.__init__" iS s.heap.objs.size fI (.ref cda) cc) rfl rfl (by decide) rfl (X₁ _ _ ho) rfl rfl rfl (X₁ _ _ hcode) rfl hvs hfile T.top ?_
  refine ks_loadName_global rfl rfl (loadGlobal_builtin (env := ksEnv "ToldError.__init__" iS s.heap.objs.size fI (.ref cda) cc) (MD.glob.keeps fun b o e => F.keep b o (hb0 b o e)) T.su (hmb.keeps fun b o e => F.keep b o (hb0 b o e)) ((hmb2 _ (by decide)).trans PyProof.Rows.Boot.«super») ⟨rfl, ?_⟩)
  refine wpAny_loadName_free rfl rfl rfl ⟨_, X₁ _ _ hcel, rfl⟩ ?_
  refine wpAny_loadName_local rfl rfl F.ns (by first | rfl | with_unfolding_all rfl | kernel_rfl) ?_
  refine ks_wpAny_isType_cls hD1 hD2 ⟨rfl, ?_⟩
  refine ks_wpAny_call_super hD1 hD2 hx₁ rfl (fun c e => nomatch e) (looks_mroIn X₁ TC.mD) (fun h₂ e₂ k₂ => ?_)
  obtain ⟨F2, N2, l2⟩ := ks_newsPush (s := { s with heap := h₁, toks := s.toks + 2 }) F Nw rfl e₂ k₂
  have J2 : InstAt h₂ x (excObj C t0 none .none) C none := InstAt.of_exc0 N2 (List.mem_cons_of_mem _ List.mem_cons_self)
  refine kxs_method kxs_ValueError F2 X N2 List.mem_cons_self J2 T.st TC.sup TC.ve (by decide) (fun q3' h₃ F3 N3 l3 => ?_)
  refine kxs_callWith1 N3 List.mem_cons_self ?_
  refine Calls.spliced_cons (ldK F3.ns (by first | rfl | with_unfolding_all rfl | kernel_rfl) (Calls.spliced_nil ⟨kxs_at N3 List.mem_cons_self, ?_⟩))
  have ne3 : ∀ p ∈ [((h₁.objs.size : Addr), ks_superObj D x C), (x, excObj C t0 none .none)], p.1 < q3' := l3
  have x_lt : x < h₁.objs.size := Heap.lt_size hx₁
  refine kxs_call F3 X N3 PySem.F.excBase_ValueError TC.ini List.mem_cons_self
    (.tail (fun z => ?_) (.tail (fun z => ?_) (.head fun p hp => (nomatch hp)))) (one_size v) (fun t1 h₄ F4 N4 l4 => ?_)
  · have := l3 (x, excObj C t0 none .none) (List.mem_cons_of_mem _ List.mem_cons_self)
    exact absurd (show q3' = x from z) (Nat.ne_of_gt this)
  · exact absurd (show h₁.objs.size = x from z) (Nat.ne_of_gt x_lt)
  have hx₄ : h₄.get? x = some (excObj C t1 none .none) := (N4 (x, excObj C t1 none .none) (by simp)).1
  have X₄ : K.In h₄ := X.keeps F4.keep
  refine ks_wpAt_execs_cons (ks_wpAt_Assign_Attr (wpAt_of_wpAny ?_))
  refine ldK (v := v) F4.ns (by first | rfl | with_unfolding_all rfl | kernel_rfl) (ldK (v := .ref x) F4.ns (by first | rfl | with_unfolding_all rfl | kernel_rfl) ?_)
  refine set_plain X₄ (ox := excO C t1) (od := none) ⟨hx₄, rfl, rfl, trivial⟩ TC.sa ?_
  refine exc_osa X₄ hx₄ hcl (show refsVE (.ref C :: bm) = true from hbm) rfl TC.noN (fun h₅ tk₅ dx k₅ dn dne hx₅ hn₅ => ?_)
  refine wpAt_of_wpAny ?_
  have z : s.heap.objs.size < h₄.objs.size := F4.ns.lt
  exact wpAny_execs_nil (hq h₅ tk₅ dx t1 ⟨fun b o e => k₅ b o (fun z => by rw [z, hx0] at e; cases e) (F4.keep b o e), hx₅, Nat.le_trans hsz (Nat.le_of_lt (Nat.lt_of_lt_of_le z dn)), dne, hn₅⟩)
end
end Told
end W9
namespace W9
namespace Told
open PySem PySem.W PySem.Calls PyProof.Rows PySem.HandSPX
section
variable {prog : Program} {w : World} {A : Around} {R : Result → Shared → Prop} {s : Shared} {K : Frag} {mg : Str → Option Value} {C D fI cc : Addr} {base : Heap}
theorem told_made (T : TxtD prog K mg D fI cc) (TC : TxtC K D fI C) (MD : L2.Mod K mg base) (hb0 : ∀ b o, base.get? b = some o → s.heap.get? b = some o) {v : Value} (X : K.In s.heap) (hlim : s.heap.NoLimit) (hroom : A.depth + 1 < recursionLimit)
    (hq : ∀ h' tk e d, OwnMade s.heap h' e C d v → R (.ok (.ret (.ref e))) { s with heap := h', toks := tk }) :
    codeAny (model prog w) A (.call (.ref C) ⟨[v], []⟩) R s := by
  obtain ⟨nm, q, N, bs, bm, sn, sub, ab, col, dd, k0, k1, k2, k3, k5, hC, hbm⟩ := TC.cls
  obtain ⟨hp, g, dr, tk, os⟩ := s
  have k : ∀ b o, hp.get? b = some o → ((hp.push (kdv_tup [v])).push (excO C hp.objs.size)).get? b = some o := fun b o e => Heap.get?_push_of_some _ (Heap.get?_push_of_some _ e)
  have hget : ((hp.push (kdv_tup [v])).push (excO C hp.objs.size)).get? (hp.objs.size + 1) = some (excO C hp.objs.size) := by heap_get
  have hx0 : hp.get? (hp.objs.size + 1) = none := by
    cases e : hp.get? (hp.objs.size + 1) with
    | none => rfl
    | some o => exact absurd (Nat.lt_of_succ_lt (Heap.lt_size e)) (Nat.lt_irrefl _)
  refine call_own F.excBase_ValueError (fun X => refsVE_contains X bm hbm) (X _ _ hC) (looks_findIn X TC.iC) (fun self => bind_fn X self T.tI) (one_size v) ?_
  refine told_init (s := ⟨(hp.push (kdv_tup [v])).push (excO C hp.objs.size), g, dr, tk, os⟩) T TC MD hb0 X k (by show hp.objs.size ≤ _; rw [Heap.size_push, Heap.size_push]; omega) (hlim.keeps k) hget hx0 ?_ fun h' tk' dx t1 ⟨k', hx, dn, dne, hns⟩ => ?_
  · show A.depth + 1 < recursionLimit
    exact hroom
  · exact ⟨rfl, hq h' tk' (hp.objs.size + 1) dx ⟨k', Nat.le_succ _, ⟨_, _, hx, rfl, rfl, rfl, rfl⟩, dn, dne, hns⟩⟩
end
end Told
open PySem PySem.Spec PyProof.Rows L2
theorem relO_val {v : V} {v' : Value} (r : RelV v v') (f : Str) : RelO (List.lookup f [(("value" : Str), v)]) (if f = "value" then some v' else none) := by
  by_cases hw : f = "value"
  · subst hw
    rw [if_pos rfl]
    have q : List.lookup ("value" : Str) [(("value" : Str), v)] = some v := by simp [List.lookup]
    rw [q]
    exact r
  · rw [if_neg hw]
    have qw : (f == ("value" : Str)) = false := by simpa using hw
    have q2 : List.lookup f [(("value" : Str), v)] = none := by simp [List.lookup, qw]
    rw [q2]
    trivial
/-- the dict of an error of the package -/
abbrev xdV (v : V) : HO := .xd [(("value" : Str), v)]
section
variable {X : Cx} {C D fI cc : Addr}
/-- C(e), C a class of the package's errors -/
theorem pmk_told {x : Str} {a : Expr} {ta : TE} {p pos : Pos} {k : Nat} (T : Told.TxtD X.prog X.K X.mg D fI cc) (TC : Told.TxtC X.K D fI C) (hm : X.mg x = some (.ref C)) (hr : Room k X.A) (ha : PE X a ta) (hg : Gl X x := by rfl) (hdb : (x == ("__debug__" : Str)) = false := by decide)
    (he : starEach (a :: []) X.env = (false, eval a X.env) :: starEach [] X.env := by rfl) (hpl : (backTo pos (starEach [] X.env)).any (·.1) = false := by rfl) :
    PMk X (.Call (.Name x p) [a] [] pos) (fun σ H Q => ta σ H fun v H1 => ∀ d, H1 d = none → Q (.ref C) (some d) (upd H1 d (xdV v))) := by
  intro pins s σ H Q I h
  refine wpAny_Call_Name_kw (ld_glob I hg hm ?_ hdb)
  refine PySem.W.callWith_K (h₀ := X.base) I.ok.mod.kin TC.kC ?_ he hpl
  rw [he]
  show wpAny _ _ (spliced ((false, eval a X.env) :: backTo pos (starEach [] X.env))) _ _ s
  refine Calls.spliced_cons (thn (ha.run pins s σ H _ I h) fun u s1 ⟨v, H1, I1, rv, q1⟩ => ?_)
  refine Calls.spliced_nil ⟨I1.kIn, ?_⟩
  show wpAny _ _ (call (.ref C) [u]) _ _ _
  have hlim := I1.nolimit
  have hbk := I1.bk
  obtain ⟨hp, g, dr, tk, os⟩ := s1
  refine wpAny_call (Told.told_made T TC I1.ok.mod hbk I1.kIn hlim (by have := hr.dp; omega) fun h' tk' e d M => ?_)
  show MkP X pins σ Q (.ref e) ⟨h', g, dr, tk', os⟩
  obtain ⟨oe, fv, hoe, hc, hd, hdat, h1⟩ := M.obj
  have hns := M.ns
  obtain ⟨G', g1, g2⟩ := restrict h' fun b => decide (b ≠ e)
  have gk : ∀ b, b ≠ e → G'.get? b = h'.get? b := fun b hb => g1 b (decide_eq_true hb)
  have ge : G'.get? e = none := g2 e (by simp)
  have old : ∀ b o, hp.get? b = some o → G'.get? b = some o := fun b o q => (gk b (Nat.ne_of_lt (Nat.lt_of_lt_of_le (Heap.lt_size q) M.new))).trans (M.keep b o q)
  have ob : ObjOk X.prog X.w (upd H1 d (xdV v)) G' d (xdV v) :=
    ⟨_, hns.at (fun o q => (gk d M.dne).trans q), fun f => relO_val rv f⟩
  have J : Inv X pins σ (upd H1 d (xdV v)) ⟨G', g, dr, tk', os⟩ := I1.laid (t' := tk') old M.dbig ob
  refine ⟨e, oe, fv, ⟨G', g, dr, tk', os⟩, _, .ref C, some d, rfl, J, fun b o q => ?_, ge, hoe, ⟨hc, hd⟩, hdat, h1, ?_, rfl, I1.bare, raises_own TC.exC TC.tyC, q1 d (I1.hok.fresh M.dbig)⟩
  · by_cases hb : b = e
    · have q' : G'.get? b = some o := q
      rw [hb, ge] at q'; cases q'
    · exact (gk b hb).symm.trans q
  · rw [upd_ne (Ne.symm M.dne)]
    exact I1.hok.fresh M.new
end
/-! ### a caught error that lives on -/
/-- an error of the class cls that was raised and caught, its dict d, at a -/
def EXO (cls : Value) (d : Option Addr) (a : Addr) : HO := .ext fun h => ∃ oe, h.get? a = some oe ∧ Zc cls d oe ∧ ∃ vs, oe.data = .fields vs
theorem exO_okX {P : Program} {w : World} {H : Hp} {h : Heap} {a : Addr} {cls : Value} {d : Option Addr} {oe : Obj} {vs : Array Value} (e : h.get? a = some oe) (z : Zc cls d oe) (dt : oe.data = .fields vs) : ObjOk P w H h a (EXO cls d a) :=
  ⟨⟨oe, e, z, vs, dt⟩, ⟨oe, e⟩, fun _ _ ⟨o, q, r⟩ k => ⟨o, k o q, r⟩⟩
/-- what the clause wishes: from here on the error is a thing of ours -/
def wEsc (K : PySem.W.Frag) (c : Value) (i : Nat) (ts : Addr → Value → Option Addr → TS) (Wout : WX) (D : Ends) : WX := fun cls d σ H =>
  ∃ b, PySem.W.exmOne K cls c = some b ∧ (b = true → ∀ a, H a = none → ts a cls d { nx := fun σ' H' => D.nx (σ'.set i none) H', rt := D.rt, bk := fun σ' H' => D.bk (σ'.set i none) H', ct := fun σ' H' => D.ct (σ'.set i none) H' } (σ.set i (some (.ref a))) (upd H a (EXO cls d a))) ∧
    (b = false → Wout cls d σ H)
section
variable {X : Cx} {pins : List (Addr × Obj)} {σ : L2.St} {H : Hp} {s : Shared}
theorem inv_suite0 (I : Inv X pins σ H s) (a : Addr) : Inv (X.suite a (X.pn ++ pins)) [] σ H s :=
  ⟨I.ok.suite _ _, I.os, I.bare, I.base, I.loc, I.cell, I.free, I.freeC, fun p hp => I.pin p (by rw [List.append_nil] at hp; exact hp), I.hok, I.len⟩
theorem inv_unsuite0 {a : Addr} {pn' : List (Addr × Obj)} (I : Inv (X.suite a (X.pn ++ pins)) pn' σ H s) (ok : X.Ok) : Inv X pins σ H s :=
  ⟨ok, I.os, I.bare, I.base, I.loc, I.cell, I.free, I.freeC, fun p hp => I.pin p (List.mem_append_left _ hp), I.hok, I.len⟩
/-- an object that is there, new since the entry, is tracked from here on -/
theorem inv_track {a : Addr} {cls : Value} {d : Option Addr} {oe : Obj} {vs : Array Value} (I : Inv X pins σ H s) (ha : s.heap.get? a = some oe) (hz : Zc cls d oe) (hd : oe.data = .fields vs) (na : H a = none) (n0 : X.s_0.heap.get? a = none) (nL : a ≠ X.env.locals)
    (nP : ∀ p ∈ X.pn ++ pins, p.1 ≠ a) : Inv X pins σ (upd H a (EXO cls d a)) s := by
  have ne0 : ∀ b o, X.s_0.heap.get? b = some o → b ≠ a := fun b o e z => by rw [z, n0] at e; cases e
  refine ⟨I.ok, I.os, I.bare, ⟨I.base.keep, I.base.slot, fun b o e n hx => ?_, I.base.there, fun b xs e => ?_, fun b o u e => ?_, fun b ps e => ?_⟩, I.loc, I.cell, ?_, fun x c e => ?_, fun p hp => ?_, ?_, I.len⟩
  · rw [upd_ne (ne0 b o e)]; exact I.base.free b o e n hx
  · have q := I.base.tups b xs e
    rw [upd_ne (ne_of_none q na)]; exact q
  · have q := I.base.frzs b o u e
    rw [upd_ne (ne_of_none q na)]; exact q
  · obtain ⟨m, q⟩ := I.base.tbls b ps e
    exact ⟨m, by rw [upd_ne (ne_of_none q na)]; exact q⟩
  · rw [upd_ne (Ne.symm nL)]; exact I.free
  · have hc : c ≠ a := fun z => by
      obtain ⟨v, o, ho, hcd⟩ := I.cell x c e
      rw [z, ha] at ho; cases ho
      rw [hd] at hcd; cases hcd
    rw [upd_ne hc]; exact I.freeC x c e
  · obtain ⟨e, n, r⟩ := I.pin p hp
    exact ⟨e, by rw [upd_ne (nP p hp)]; exact n, r⟩
  · exact I.hok.laidN (fun _ _ e => e) na (exO_okX ha hz hd)
end
section
variable {X : Cx} {x n : Str} {c : Value} {i : Nat} {body suite : List Stmt} {b₀ : Stmt} {np pos pos' : Pos} {tb : WX → TS} {ts : Addr → Value → Option Addr → TS} {Wout : WX}
theorem ps_try_esc (hex : X.ex = []) (hs : X.stack = X.env :: X.outer) (hf : X.env.frame = some X.env.locals) (hN : X.N.Nodup) (hi : X.N[i]? = some n) (hln : X.env.kindOf n = some .local) (hc : Names X x c) (tk : Takes X Wout)
    (hb : ∀ (W : WX) (pn : List (Addr × Obj)) (xe : Value → Shared → Prop), Takes (X.tr pn xe) W → PassesOwn (model X.prog X.w) X.A X.env xe → PSs (X.tr pn xe) body (tb W))
    (hsu : ∀ (a : Addr) (cls : Value) (d : Option Addr) (pn : List (Addr × Obj)), PSs (X.suite a pn) (b₀ :: suite) (ts a cls d)) :
    PS X (.Try body [.ExceptHandler (some (.Name x np)) (some n) (b₀ :: suite) pos'] [] [] pos) (fun D σ H => tb (wEsc X.K c i ts Wout D) D σ H) := by
  refine ⟨fun pins s σ H D I h => ?_⟩
  have ok := I.ok
  have hfr : X.A.frames = some (X.env :: X.outer) := by rw [ok.frames, hs]
  have hloc : Loc X.env.scope n := .inl hln
  refine wpAny_Try_except ?_
  refine wpAny_mono ((hb (wEsc X.K c i ts Wout D) (X.pn ++ pins) (fun e s₁ => wpAny (model X.prog X.w) X.A (noteFrame e X.env) (fun _ s₂ => wpAny (model X.prog X.w) X.A (setFlight e none) (fun _ s₃ =>
    wpAny (model X.prog X.w) X.A (handleBy e X.env [.ExceptHandler (some (.Name x np)) (some n) (b₀ :: suite) pos']) (SP X pins D) X.xe s₃) X.xe s₂) X.xe s₁) (fun u s' xx => ?_) PassesOwn.looking).run [] s σ H D (I.toTry _) h) (fun f s1 hsp => ?_) (fun e s1 he => he)
  · -- the catch
    obtain ⟨a, B, sI, pins', σ', H', cls, d, rfl, J', nb, up, sky, na, os, ag, b, hb1, hyes, hno⟩ := xx
    have J : Inv X pins σ' H' sI := J'.ofTry ok
    have sky' : Sky B (X.env :: X.outer) a (Zc cls d) X.env.locals s'.heap := by rw [← hs]; exact sky
    show wpAny (model X.prog X.w) X.A (noteFrame (.ref a) X.env) _ _ _
    refine Sky.land Zc.steady hfr hf sky' fun h3 fl3 up3 => ?_
    have J3 : Inv X pins σ' H' { s' with heap := h3 } := J.landed nb fl3.1 (up.trans up3) os ag
    obtain ⟨oe3, vs3, he3, hz3, hd3⟩ := fl3.there
    have notFr : ∀ {h : Heap} {o : Obj} {vs : Array Value}, h.FunFrames B (X.env :: X.outer) → h.get? a = some o → o.data = .fields vs → a ∉ frs (X.env :: X.outer) := fun {h o vs} ff e dd hm => by
      obtain ⟨_, o', e', hnf⟩ := ff.mem hm
      rw [e] at e'; cases e'
      exact hnf _ dd
    have nfr := notFr fl3.2.2.1 he3 hd3
    have nL : a ≠ X.env.locals := fun z => nfr (List.mem_filterMap.mpr ⟨X.env, List.mem_cons_self, by rw [hf, z]⟩)
    have nF : a ∉ X.fs := fun hm => by
      obtain ⟨e, he, q⟩ := List.mem_filterMap.mp hm
      exact nfr (List.mem_filterMap.mpr ⟨e, List.mem_cons_of_mem _ he, q⟩)
    have nB : B.get? a = none := fl3.2.1
    have nI : sI.heap.get? a = none := by
      cases e : sI.heap.get? a with
      | none => rfl
      | some o =>
        have z := nb a o e (by rw [hs]; exact nfr)
        rw [nB] at z; cases z
    have n0 : X.s_0.heap.get? a = none := by
      cases e : X.s_0.heap.get? a with
      | none => rfl
      | some o =>
        obtain ⟨o', z⟩ := J.base.there a o e (by rw [hex]; exact fun z => nomatch z)
        rw [nI] at z; cases z
    have nP : ∀ p ∈ X.pn ++ pins, p.1 ≠ a := fun p hp z => by
      obtain ⟨e, _⟩ := J.pin p hp
      rw [z, nI] at e; cases e
    have S3 := J3.suite he3 hd3 na nL nF
    refine wpAny_handleBy_cons (codeAny_handlers_test ?_) (by intro q; cases q)
    have LT : PySem.W.Looks (model X.prog X.w) h3 (typeOf (.ref a)) cls := fun A Q E s k q => wpAny_typeOf_ref (k _ _ he3) (by rw [hz3.1]; exact q)
    have LM := PySem.W.exm_one (M := model X.prog X.w) (J3.kIn) LT hb1
    have test : ∀ {Q : Value → Shared → Prop} {E : Value → Shared → Prop}, Q c { s' with heap := h3 } → wpAny (model X.prog X.w) (X.A.mark (some (.ref a))) (eval (.Name x np) X.env) Q E { s' with heap := h3 } := fun {Q E} q => by
      obtain ⟨hg, hdbg, hm | ⟨hm, hv, hnn⟩⟩ := hc
      · exact ld_glob (X := X.suite a ((a, oe3) :: (X.pn ++ pins))) S3 hg hm q hdbg
      · exact ld_blt (X := X.suite a ((a, oe3) :: (X.pn ++ pins))) S3 hg hm hv q hnn hdbg
    refine test (LM.here ?_)
    cases b with
    | true =>
      refine codeAny_handlers_suite_as ?_
      refine HandSPX.lands_againZ fl3 fun h4 fl4 up4 => ?_
      have J4 : Inv X pins σ' H' { s' with heap := h4 } := J.landed nb fl4.1 ((up.trans up3).trans up4) os ag
      obtain ⟨oe4, vs4, he4, hz4, hd4⟩ := fl4.there
      have T4 := inv_track J4 he4 hz4 hd4 na n0 nL nP
      have S4 := inv_suite0 T4 a
      refine store_ok (X := X.suite a (X.pn ++ pins)) (v := .ref a) S4 hN hi hloc rfl (fun s5 S5 => ?_) (.inr hln)
      refine wpAny_mono ((hsu a cls d (X.pn ++ pins)).run [] s5 _ _ _ S5 (hyes rfl a na)) (fun f s6 hsp => ?_) (fun _ _ z => False.elim z)
      have end_ : ∀ {σ6 : L2.St} {H6 : Hp} {Q : Shared → Prop}, Inv (X.suite a (X.pn ++ pins)) [] σ6 H6 s6 → (∀ s7, Inv X pins (σ6.set i none) H6 s7 → Q s7) →
          wpAny (model X.prog X.w) X.A (do bindName X.env n .none; unbindBehindTheSuite X.env n pos') (fun _ s7 => Q s7) X.xe s6 := fun {σ6 H6 Q} S6 hq => gone_ok (inv_unsuite0 S6 ok) hN hi hln hq
      cases f with
      | next =>
        obtain ⟨σ6, H6, S6, q6⟩ := hsp
        exact end_ S6 fun s7 J7 => ⟨_, _, J7, q6⟩
      | brk =>
        obtain ⟨σ6, H6, S6, q6⟩ := hsp
        exact end_ S6 fun s7 J7 => ⟨_, _, J7, q6⟩
      | cont =>
        obtain ⟨σ6, H6, S6, q6⟩ := hsp
        exact end_ S6 fun s7 J7 => ⟨_, _, J7, q6⟩
      | ret u =>
        obtain ⟨v6, σ6, H6, S6, r6, q6⟩ := hsp
        exact end_ S6 fun s7 J7 => ⟨_, _, _, J7, r6, q6⟩
    | false =>
      show wpAny _ X.A (handleBy (.ref a) X.env []) _ _ _
      refine wpAny_handleBy_nil ?_
      obtain ⟨k1, k2, k3, oe, vs, T, oT, ts', he, hz, hd, h1, hr⟩ := id fl3
      unfold PySem.passOn
      refine wpAny_bind (wpAny_field he hd h1 ?_)
      rw [if_neg (show ¬ ((Value.ref T == Value.none) = true) from by simp)]
      have fin : wpAny (model X.prog X.w) X.A (setFlight (.ref a) X.env.frame) (fun _ s4 => wpAny (model X.prog X.w) X.A (throw (.ref a) : Sem Flow) (SP X pins D) X.xe s4) X.xe { s' with heap := h3 } := by
        rw [hf]
        refine HandSPX.setFlight_upZ fl3 fun h4 hh4 up4 => wpAny_throw (tk _ _ ?_)
        exact ⟨a, B, sI, pins, σ', H', cls, d, rfl, J, nb, (up.trans up3).trans up4, .inr (.inr (by rw [hs]; exact hh4)), na, os, ag, hno rfl⟩
      first
        | exact wpAny_bind (wpAny_pure (wpAny_bind fin))
        | exact wpAny_bind fin
  · cases f with
    | next =>
      obtain ⟨σ', H', J', q⟩ := hsp
      exact wpAny_execs_nil ⟨σ', H', J'.ofTry ok, q⟩
    | brk =>
      obtain ⟨σ', H', J', q⟩ := hsp
      exact ⟨σ', H', J'.ofTry ok, q⟩
    | cont =>
      obtain ⟨σ', H', J', q⟩ := hsp
      exact ⟨σ', H', J'.ofTry ok, q⟩
    | ret u =>
      obtain ⟨v, σ', H', J', r, q⟩ := hsp
      exact ⟨v, σ', H', J'.ofTry ok, r, q⟩
end
end W9
namespace W9
open PySem PySem.Spec PyProof.Rows L2
/-! ### an error as a value: its class, its value -/
def ErS (K : PySem.W.Frag) (C : Addr) (x : SD) : SD := .ob fun v G => ∃ a d u, v = .ref a ∧ G a = some (EXO (.ref C) (some d) a) ∧ G d = some (xdV u) ∧ DS K G u x
theorem ers_mk {K : PySem.W.Frag} {G : Hp} {C a d : Addr} {u : V} {x : SD} (h1 : G a = some (EXO (.ref C) (some d) a)) (h2 : G d = some (xdV u)) (h3 : DS K G u x) : DS K G (.ref a) (ErS K C x) :=
  .ob ⟨a, d, u, rfl, h1, h2, h3⟩ fun G' e => ⟨a, d, u, rfl, e _ _ h1, e _ _ h2, ds_mono e h3⟩
theorem ers_of {K : PySem.W.Frag} {G : Hp} {C : Addr} {v : V} {x : SD} (h : DS K G v (ErS K C x)) : ∃ a d u, v = .ref a ∧ G a = some (EXO (.ref C) (some d) a) ∧ G d = some (xdV u) ∧ DS K G u x := ds_ob h
/-- what isinstance asks of the class at C -/
structure Told.TxtI (K : PySem.W.Frag) (C : Addr) : Prop where
  cl : (PySem.W.clsIn K C).isSome = true
  ca : PySem.W.findIn K (.ref C) "__class__" = some (some (.builtin "object.__class__"))
  hm : PySem.W.mroIn K C (.type "object") = some true
structure Told.TxtG (K : PySem.W.Frag) : Prop where
  hn : PySem.W.specialIn K (.builtin "object.__class__") "__get__" = some (some (.builtin "getset_descriptor.__get__"))
  ht : PySem.W.takesIn K (.builtin "object.__class__") = some true
section
variable {X : Cx} {C C2 D fI : Addr} {x : SD} {e : Expr} {ds : DE} {m : MS} {pos : Pos}
theorem exo_inst {pins : List (Addr × Obj)} {σ : L2.St} {H : Hp} {s : Shared} {a d : Addr} (I : Inv X pins σ H s) (ha : H a = some (EXO (.ref C) (some d) a)) {u : V} (hd : H d = some (xdV u)) :
    ∃ (oe od : Obj) (mA : Str → Option Value), PySem.W.InstAt s.heap a oe C (some od) ∧ PySem.W.lookIn "value" od = some (mA "value") ∧ RelO (some u) (mA "value") := by
  have h1 : ObjOk X.prog X.w H s.heap a (EXO (.ref C) (some d) a) := I.hok a _ ha
  obtain ⟨⟨oe, ho, hz, vs, hdt⟩, _, _⟩ := h1
  have hx : ObjOk X.prog X.w H s.heap d (xdV u) := I.hok d _ hd
  obtain ⟨mA, hns, hr⟩ := hx
  obtain ⟨od, hod, hl⟩ := lookIn_ns hns
  have l : List.lookup ("value" : Str) [(("value" : Str), u)] = some u := by simp [List.lookup]
  refine ⟨oe, od, mA, ⟨ho, hz.1, by unfold PySem.W.notCls; rw [hdt] <;> rfl, by rw [hz.2]; exact hod⟩, hl _, ?_⟩
  rw [← l]; exact hr "value"
/-- error.value -/
theorem ee_xv (T : Told.TxtC X.K D fI C) (he : EE X e ds (ErS X.K C x)) (hb : attributeBase e "value" X.env (eval e X.env) = eval e X.env := by rfl) : EE X (.Attribute e "value" pos) ds x := fun m σ G H E w Q q => by
  have p : PE X (.Attribute e "value" pos) (fun σ H Q => wE X e σ H fun v H1 => ∃ a d u, v = .ref a ∧ H1 a = some (EXO (.ref C) (some d) a) ∧ H1 d = some (xdV u) ∧ Q u H1) := by
    refine ⟨fun pins s σ H Q I h => attr_of hb (thn ((pE e).run pins s σ H _ I h) fun u s1 hh => ?_)⟩
    obtain ⟨y, H1, I1, rx, a, d, v, ey, ha, hd, q⟩ := hh
    subst ey
    obtain rfl : u = Value.ref a := rx
    obtain ⟨oe, od, mA, J, hl, hr⟩ := exo_inst I1 ha hd
    obtain ⟨u', hu, ru⟩ := RelO.some_of hr
    exact HandSPX.exc_get I1.kIn J T.ga T.gg T.exC (PySem.W.findObj_own T.hdC T.noN rfl (by rw [hl, hu])) (handed_of ru) ⟨v, H1, I1.tok _, ru, q⟩
  refine oE p (he m σ G H E w _ fun v d m1 G1 H1 g1 r1 ⟨e1, e2⟩ => ?_)
  subst e1 e2
  obtain ⟨a, d, u, rfl, h1, h2, h3⟩ := ers_of r1
  exact ⟨a, d, u, rfl, g1.wd.w _ _ h1, g1.wd.w _ _ h2, q _ _ _ _ _ g1 h3 ⟨rfl, rfl⟩⟩
/-- isinstance(error, C2) -/
def rIsX (K : PySem.W.Frag) (C : Addr) : List V → Hp → VK → Prop := fun xs H Q => ∃ (a d : Addr) (u : V) (cv : Value) (c : V) (b : Bool), xs = [.ref a, c] ∧ H a = some (EXO (.ref C) (some d) a) ∧ H d = some (xdV u) ∧ (∀ u, RelV c u → u = cv) ∧ PySem.W.kitOne K (.ref C) cv = some b ∧ Q (.bl b) H
theorem call_isX (T : Told.TxtC X.K D fI C) (TI : Told.TxtI X.K C) (TG : Told.TxtG X.K) : CallR X (.builtin "isinstance") (rIsX X.K C) := by
  intro pins s σ H xs us Q I r h
  obtain ⟨a, d, u, cv, c, b, rfl, ha, hd, hcv, e, q⟩ := h
  obtain ⟨u1, u2, rfl, r1, r2⟩ := vals2 r
  cases r1
  have ec := hcv _ r2
  subst ec
  obtain ⟨oe, od, mA, J, _, _⟩ := exo_inst I ha hd
  exact PySem.W.kia_one (PySem.W.kitx_exc TI.cl T.ga T.gg T.exC TI.ca TG.hn TG.ht TI.hm) I.kIn J e (fun z => nomatch z) fun tk => ⟨.bl b, H, I.kept (t' := tk) fun _ _ z => z, rfl, q⟩
theorem ca_isiX (T : Told.TxtC X.K D fI C) (TI : Told.TxtI X.K C) (TG : Told.TxtG X.K) {b : Bool} (hk : PySem.W.kitOne X.K (.ref C) (.ref C2) = some b) : CaD X (.builtin "isinstance") m [ErS X.K C x, .raw (.ref C2)] (B b) := ca_two (call_isX T TI TG) fun G H v u w r r2 Q q => by
  cases ds_raw r2
  obtain ⟨a, d, u, rfl, h1, h2, h3⟩ := ers_of r
  exact ⟨a, d, u, .ref C2, .ref C2, b, rfl, w.w _ _ h1, w.w _ _ h2, fun u r => r, hk, q _ _ _ (.refl w) (.py (.bl b))⟩
end
/-! ### statements that may end in an error -/
section
variable {X : Cx}
theorem nxE {e : Expr} {σ : L2.St} {H : Hp} {Q : VK} (h : wE X.nox e σ H Q) : wE X e σ H Q := fun pins s I => (pE (X := X.nox) e).nox.run pins s σ H Q I h
theorem nxT {e : Expr} {σ : L2.St} {H : Hp} {Q : Bool → Hp → Prop} (h : wT X.nox e σ H Q) : wT X e σ H Q := fun pins s I => (pT (X := X.nox) e).nox.run pins s σ H Q I h
theorem nS {st : Stmt} {σ : L2.St} {H : Hp} {D : Ends} (h : wS X.nox st D σ H) : wS X st D σ H := fun pins s I =>
  wpAny_mono (h pins s (I.wish _)) (fun _ _ q => q.unwish) fun _ _ z => False.elim z
theorem nA {es : List Expr} {σ : L2.St} {H : Hp} {Q : List V → Hp → Prop} (h : wA X.nox es σ H Q) : wA X es σ H Q := fun pos pins s I =>
  wpAny_mono (h pos pins s (I.wish _)) (fun _ _ ⟨v, H', I', r, q⟩ => ⟨v, H', I'.unwish, r, q⟩) fun _ _ z => False.elim z
theorem nG {tg : Expr} {v : V} {σ : L2.St} {H : Hp} {Q : L2.St → Hp → Prop} (h : wG X.nox tg v σ H Q) : wG X tg v σ H Q := fun pins s u I r =>
  wpAny_mono (h pins s u (I.wish _) r) (fun _ _ ⟨v, H', I', q⟩ => ⟨v, H', I'.unwish, q⟩) fun _ _ z => False.elim z
end
/-- the way out of an error: class, value, the slots, what is owned then -/
abbrev RX := Addr → SD → DE → MS → Prop
def XOk (K : PySem.W.Frag) (m : MS) (G H : Hp) (R : RX) (W : WX) : Prop :=
  ∀ C x d v σ ds m' G' H', Gr K m m' G H G' H' → G' d = some (xdV v) → DS K G' v x → EnvD K G' σ ds → R C x ds m' → W (.ref C) (some d) σ H'
theorem XOk.after {K : PySem.W.Frag} {m m1 : MS} {G H G1 H1 : Hp} {R : RX} {W : WX} (k : XOk K m G H R W) (g : Gr K m m1 G H G1 H1) : XOk K m1 G1 H1 R W := fun C x d v σ ds m' G' H' g' => k C x d v σ ds m' G' H' (g.trans g')
def XS (X : Cx) (st : Stmt) (ds : DE) (m : MS) (E : ED) (R : RX) : Prop := ∀ W, Takes X W → ∀ σ G H, EnvD X.K G σ ds → Wd X.K m G H → XOk X.K m G H R W → ∀ D, EndsOk X.K m G H E D → wS X st D σ H
def XSs (X : Cx) (st : List Stmt) (ds : DE) (m : MS) (E : ED) (R : RX) : Prop := ∀ W, Takes X W → ∀ σ G H, EnvD X.K G σ ds → Wd X.K m G H → XOk X.K m G H R W → ∀ D, EndsOk X.K m G H E D → wSs X st D σ H
def XEx (X : Cx) (e : Expr) (ds : DE) (m : MS) (P : SD → MS → Prop) (R : RX) : Prop := ∀ W, Takes X W → ∀ σ G H, EnvD X.K G σ ds → Wd X.K m G H → XOk X.K m G H R W → ∀ Q : VK, (∀ v d m' G' H', Gr X.K m m' G H G' H' → DS X.K G' v d → P d m' → Q v H') → wE X e σ H Q
section
variable {X : Cx} {ds : DE} {m : MS} {e a b c tg iter : Expr} {st : Stmt} {sts : List Stmt} {pos : Pos} {E : ED} {R : RX}
theorem xs_of (h : WS X.nox st ds m E) : XS X st ds m E R := fun W tk σ G H e0 w x D k => nS (h σ G H e0 w D k)
theorem xe_of {P : SD → MS → Prop} (h : WE X.nox e ds m P) : XEx X e ds m P R := fun W tk σ G H e0 w x Q q => nxE (h σ G H e0 w Q q)
theorem xss_nil (p : E.nx ds m) : XSs X [] ds m E R := fun W tk σ G H e w x D k => oSs pss_nil (k.nx _ _ _ _ _ (.refl w) e p)
theorem xss_cons (h : XS X st ds m { E with nx := fun ds1 m1 => XSs X sts ds1 m1 E R } R) : XSs X (st :: sts) ds m E R := fun W tk σ G H e w x D k => oSs (pss_cons (pS st) (pSs sts))
  (h W tk σ G H e w x { D with nx := wSs X sts D } ⟨fun σ' ds' m' G' H' g e' p => p W tk σ' G' H' e' g.wd (x.after g) D (k.after g), k.rt, k.bk, k.ct⟩)
theorem xss_one (h : XS X st ds m E R) : XSs X [st] ds m E R := fun W tk σ G H e w x D k => oSs (pss_one (pS st)) (h W tk σ G H e w x D k)
theorem xs_if {t f : List Stmt} (h : WT X.nox c ds m fun k m1 => if k = true then XSs X t ds m1 E R else XSs X f ds m1 E R) : XS X (.If c t f pos) ds m E R := fun W tk σ G H e0 w x D k => oS (ps_if (pT c) (pSs t) (pSs f)) (nxT (h σ G H e0 w _ fun b m1 G1 H1 g1 p => by
  cases b with
  | true =>
    rw [if_pos rfl] at p ⊢
    exact p W tk σ G1 H1 (e0.mono g1.g) g1.wd (x.after g1) D (k.after g1)
  | false =>
    rw [if_neg Bool.false_ne_true] at p ⊢
    exact p W tk σ G1 H1 (e0.mono g1.g) g1.wd (x.after g1) D (k.after g1)))
theorem xs_ife {t f : List Stmt} {k : Bool} (h : ET X.nox c ds k) (h1 : k = true → XSs X t ds m E R) (h2 : k = false → XSs X f ds m E R) : XS X (.If c t f pos) ds m E R := xs_if (h.to (by
  cases k with
  | true => rw [if_pos rfl]; exact h1 rfl
  | false => rw [if_neg Bool.false_ne_true]; exact h2 rfl))
theorem xs_ret (h : XEx X e ds m E.rt R) : XS X (.Return (some e) pos) ds m E R := fun W tk σ G H e0 w x D k => oS (ps_ret (pE e)) (h W tk σ G H e0 w x _ fun v d m1 G1 H1 g1 r1 p => k.rt _ _ _ _ _ g1 r1 p)
theorem xs_expr (h : XEx X e ds m (fun _ m1 => E.nx ds m1) R) (hs : swapsWith e none pos.line X.env = pure false := by rfl) : XS X (.Expr e pos) ds m E R := fun W tk σ G H e0 w x D k => oS (ps_expr (pE e) hs) (h W tk σ G H e0 w x _ fun v d m1 G1 H1 g1 r1 p => k.nx _ _ _ _ _ g1 (e0.mono g1.g) p)
theorem xs_set {i : Nat} {y : Str} {pos' : Pos} (hN : X.N.Nodup) (h : XEx X e ds m (fun d m1 => E.nx (ds.set i (some d)) m1) R) (hi : X.N[i]? = some y := by rfl) (hx : Loc X.env.scope y := by first | exact Or.inl rfl | exact Or.inr rfl)
    (hs : swapsWith e (some (.Name y pos')) pos.line X.env = pure false := by rfl) (hf : X.fn y = true ∨ X.env.scope.names.lookup y = some .local := by first | exact .inl rfl | exact .inr rfl | assumption) : XS X (.Assign [.Name y pos'] e pos) ds m E R := fun W tk σ G H e0 w x D k =>
  oS (ps_set hN hi hx (pE e) hs hf) (h W tk σ G H e0 w x _ fun v d m1 G1 H1 g1 r1 p => k.nx _ _ _ _ _ g1 ((e0.mono g1.g).set r1) p)
/-- raise C(e) -/
theorem xs_raise {C D fI cc : Addr} {y : Str} {p pos2 : Pos} {k : Nat} (T : Told.TxtD X.prog X.K X.mg D fI cc) (TC : Told.TxtC X.K D fI C) (hm : X.mg y = some (.ref C)) (hr : Room k X.A) (hc : X.calm = true) (h : WE X.nox e ds m fun x m1 => R C x ds m1)
    (hg : Gl X y := by rfl) (hdb : (y == ("__debug__" : Str)) = false := by decide) (he : starEach (e :: []) X.env = (false, eval e X.env) :: starEach [] X.env := by rfl) (hpl : (backTo pos (starEach [] X.env)).any (·.1) = false := by rfl) :
    XS X (.Raise (some (.Call (.Name y p) [e] [] pos)) none pos2) ds m E R := fun W tk σ G H e0 w x D kk =>
  oS (ps_raise hc tk (pmk_told T TC hm hr (pE e) hg hdb he hpl)) (nxE (h σ G H e0 w _ fun v d m1 G1 H1 g1 r1 p => fun dd hd => by
    have g2 := Gr.new (o := xdV v) g1.wd hd
    exact x C d dd v σ ds m1 _ _ (g1.trans g2) upd_same (ds_mono g2.g r1) (e0.mono (g1.trans g2).g) p))
end
end W9
namespace W9
open PySem PySem.Spec PyProof.Rows L2
/-! ### defs that may raise -/
abbrev RF := Addr → SD → MS → Prop
abbrev FTX := List SD → MS → (SD → MS → Prop) → RF → Prop
def SpX (K : PySem.W.Frag) (F : FTX) : Sp := fun vs H Q E => ∃ G m ds P R, Wd K m G H ∧ DSs K G vs ds ∧ F ds m P R ∧ (∀ v d m' G' H', Gr K m m' G H G' H' → DS K G' v d → P d m' → Q v H') ∧
  ∀ C x d v m' G' H', Gr K m m' G H G' H' → G' d = some (xdV v) → DS K G' v x → R C x m' → E (.ref C) (some d) H'
def bXX (P : Program) (w : World) (K : PySem.W.Frag) (mg : Str → Option Value) (base : Heap) (N : List Str) (qual : Str) (scope : Scope) (f : Addr) (cd : Value) (A : Around) (outer : List Env) (s : Shared) (H : Hp) (E : XK) : Cx :=
  cxOf (L2.CX P w) P w K mg base N qual scope f cd A outer s H E
section
variable {X : Cx} {ds : DE} {m : MS} {e : Expr} {es : List Expr} {pos : Pos} {k : Nat} {f : Addr} {fd : FuncData} {ps : List Str} {F : FTX} {x : Str} {p : Pos}
theorem run_fnS9 {CX : CXT} {sp : Sp} {E : XK} {pins : List (Addr × Obj)} {σ : L2.St} {H : Hp} {s : Shared} {Q : VK} {args : Args} {us : List Value} {vs : List V} (FO : FnG X.prog X.w X.K X.mg X.base CX k f fd ps sp) (hr : Rm k X.A) (hb : BindsTo s fd args (ps.zip us)) (hx : PassesAt CX X σ E)
    (J : Inv X pins σ H s) (r : Vals vs us) (h : sp vs H Q E) : codeAny (model X.prog X.w) X.A (.call (.ref f) args) (fun r s' => match r with | .ok (.ret u) => EP X pins σ Q u s' | .ok _ => False | .error e => X.xe e s') s := by
  refine codeAny_mono (FO.go X.A X.stack s H args us vs Q E hr J.env0 hb r h) fun rr s' hq => ?_
  match rr, hq with
  | .error e, hq => exact hx pins H s e s' J hq
  | .ok (.ret u), hq => exact J.after hq
  | .ok .next, hq => exact hq
  | .ok .brk, hq => exact hq
  | .ok .cont, hq => exact hq
theorem takesF {X : Cx} : Takes X (fun _ _ _ _ => False) := fun _ _ x => by
  obtain ⟨_, _, _, _, _, _, _, _, _, _, _, _, _, _, _, _, z⟩ := x
  exact z.elim
/-- try: body, except x as n: suite; the error lives on -/
theorem ws_try {n : Str} {c : Value} {i : Nat} {body suite : List Stmt} {b₀ : Stmt} {np pos' : Pos} {E : ED} {R : RX} (hc : Names X x c) (hN : X.N.Nodup) (hi : X.N[i]? = some n)
    (hb : ∀ pn xe, PassesOwn (model X.prog X.w) X.A X.env xe → XSs (X.tr pn xe) body ds m E R)
    (hsu : ∀ C y ds' m', R C y ds' m' → PySem.W.exmOne X.K (.ref C) c = some true ∧ ∀ a pn, WSs (X.suite a pn) (b₀ :: suite) (ds'.set i (some (ErS X.K C y))) m' { nx := fun d m => E.nx (d.set i none) m, rt := E.rt, bk := fun d m => E.bk (d.set i none) m, ct := fun d m => E.ct (d.set i none) m })
    (hex : X.ex = [] := by rfl) (hs : X.stack = X.env :: X.outer := by rfl) (hf : X.env.frame = some X.env.locals := by rfl) (hln : X.env.kindOf n = some .local := by rfl) :
    WS X (.Try body [.ExceptHandler (some (.Name x np)) (some n) (b₀ :: suite) pos'] [] [] pos) ds m E := fun σ G H e0 w D k => by
  refine oS (ps_try_esc (tb := fun W D σ H => ∀ pn xe, Takes (X.tr pn xe) W → PassesOwn (model X.prog X.w) X.A X.env xe → wSs (X.tr pn xe) body D σ H) (ts := fun a cls d D σ H => ∀ pn, wSs (X.suite a pn) (b₀ :: suite) D σ H) (Wout := fun _ _ _ _ => False)
    hex hs hf hN hi hln hc takesF (fun W pn xe tk hp => ⟨fun pins s σ H D I h => h pn xe tk hp pins s I⟩) fun a cls d pn => ⟨fun pins s σ H D I h => h pn pins s I⟩) ?_
  intro pn xe tk hp
  refine hb pn xe hp _ tk σ G H e0 w ?_ D k
  intro C y d v σ' ds' m' G' H' g h1 h2 e1 r
  obtain ⟨hx, hq⟩ := hsu C y ds' m' r
  refine ⟨true, hx, fun _ a na pn => ?_, fun z => (nomatch z)⟩
  have g2 := Gr.new (o := EXO (.ref C) (some d) a) g.wd na
  have gg := g.trans g2
  refine hq a pn _ _ _ ((e1.mono g2.g).set (ers_mk upd_same (g2.g _ _ h1) (ds_mono g2.g h2))) g2.wd _ ⟨?_, ?_, ?_, ?_⟩
  · exact fun σ5 ds5 m5 G5 H5 g5 e5 p5 => k.nx _ _ _ _ _ (gg.trans g5) (e5.unset i) p5
  · exact fun v d5 m5 G5 H5 g5 r5 p5 => k.rt _ _ _ _ _ (gg.trans g5) r5 p5
  · exact fun σ5 ds5 m5 G5 H5 g5 e5 p5 => k.bk _ _ _ _ _ (gg.trans g5) (e5.unset i) p5
  · exact fun σ5 ds5 m5 G5 H5 g5 e5 p5 => k.ct _ _ _ _ _ (gg.trans g5) (e5.unset i) p5
end
end W9
namespace W9
open PySem PySem.Spec PyProof.Rows L2 LamX
/-! ### functions without parameters as values -/
/-- at f: what `lambda: body` makes; q: its name, cl: the cells it holds, c': its code -/
def FnO (f : Addr) (q : Str) (params : Arguments) (body : Expr) (scope : Scope) (cl : List (Str × Addr)) (pm : Value) (c' : Addr) (ctv : Value) : HO := .ext fun h => h.get? f = some (PySem.W.kla_obj "<lambda>" q params body scope cl pm c' ctv)
theorem fnO_ok {P : Program} {w : World} {H : Hp} {h : Heap} {f : Addr} {q : Str} {params : Arguments} {body : Expr} {scope : Scope} {cl : List (Str × Addr)} {pm : Value} {c' : Addr} {ctv : Value} (e : h.get? f = some (PySem.W.kla_obj "<lambda>" q params body scope cl pm c' ctv)) :
    ObjOk P w H h f (FnO f q params body scope cl pm c' ctv) := ⟨e, ⟨_, e⟩, fun _ _ z k => k _ z⟩
def FnS (q : Str) (params : Arguments) (body : Expr) (scope : Scope) (cl : List (Str × Addr)) : SD := .ob fun v G => ∃ f c' pm ctv, v = .ref f ∧ G f = some (FnO f q params body scope cl pm c' ctv) ∧ G c' = some (CodeO c' q)
theorem fnS_mk {K : PySem.W.Frag} {G : Hp} {f c' : Addr} {q : Str} {params : Arguments} {body : Expr} {scope : Scope} {cl : List (Str × Addr)} {pm ctv : Value} (h1 : G f = some (FnO f q params body scope cl pm c' ctv)) (h2 : G c' = some (CodeO c' q)) : DS K G (.ref f) (FnS q params body scope cl) :=
  .ob ⟨f, c', pm, ctv, rfl, h1, h2⟩ fun G' e => ⟨f, c', pm, ctv, rfl, e _ _ h1, e _ _ h2⟩
theorem mset_id {K : PySem.W.Frag} {G H : Hp} {m : MS} (w : Wd K m G H) {p : Addr} {v : OV} (h : (p, v) ∈ m) : mset m p v = m := by
  have nd := w.nd
  clear w
  unfold mset
  induction m with
  | nil => rfl
  | cons a m ih =>
    unfold ad at nd ih
    rw [List.map_cons, List.nodup_cons] at nd
    rw [List.map_cons]
    by_cases e : a.1 = p
    · rw [if_pos e]
      have ea : a = (p, v) := by
        rcases List.mem_cons.mp h with z | z
        · exact z.symm
        · exact absurd (by rw [e]; exact List.mem_map_of_mem z) nd.1
      have rest : m.map (fun q => if q.1 = p then (p, v) else q) = m := by
        have : ∀ q ∈ m, (if q.1 = p then (p, v) else q) = q := fun q hq => if_neg fun z => nd.1 (by rw [e, ← z]; exact List.mem_map_of_mem hq)
        rw [List.map_congr_left this, List.map_id']
      rw [rest, ea]
    · rw [if_neg e]
      congr 1
      refine ih ?_ nd.2
      rcases List.mem_cons.mp h with z | z
      · exact absurd (by rw [← z]) e
      · exact z
section
variable {X : Cx} {pins : List (Addr × Obj)} {σ : L2.St} {H : Hp} {s : Shared}
/-- lambda: body; its code is new, or known; the function is a thing of ours -/
theorem lam_made {KC : Addr → Prop} {c P : Addr} {q : Str} {params : Arguments} {body : Expr} {scope : Scope} {pos : Pos} {ps : Array Value} {E : Value → Shared → Prop} {Q : Value → Shared → Prop} (I : Inv X pins σ H s) (TB : TabB X.base X.mg c P) (hcode : X.env.code = .ref c) (hq : q = X.env.qual ++ "<lambda>")
    (hP : H P = some (.tbl ps)) (ht : TriplesOk ps.toList) (ha : ∀ (pos : Pos) (cv : Value), codeAmong pos ps.toList = some cv → ∃ c, cv = .ref c ∧ KC c) (hdef : defaultsOf params X.env = ([], [])) (hfree : ∀ y ∈ scope.names, y.2 = .free → ∃ c, X.env.cells.lookup y.1 = some c)
    (hit : ∀ f c' pm ctv s', H f = none → KC c' → Inv X pins σ (upd H f (FnO f q params body scope (cloFrom X.env.cells scope.names []) pm c' ctv)) s' → Q (.ref f) s')
    (miss : ∀ f c' pm ctv s' ps', H f = none → H c' = none → f ≠ c' → TriplesOk ps'.toList → (∀ (pos : Pos) (cv : Value), codeAmong pos ps'.toList = some cv → cv = .ref c' ∨ ∃ c, cv = .ref c ∧ KC c) →
      Inv X pins σ (upd (upd (upd H P (.tbl ps')) c' (CodeO c' q)) f (FnO f q params body scope (cloFrom X.env.cells scope.names []) pm c' ctv)) s' → Q (.ref f) s') :
    wpAny (model X.prog X.w) X.A (eval (.Lambda params body scope pos) X.env) Q E s := by
  subst hq
  have tabP : s.heap.get? P = some { cls := .none, data := .fields ps } := I.hok P _ hP
  have glob := I.mod.glob.keeps I.bk
  have code := TB.code.keeps I.bk
  have bm := TB.bm.keeps I.bk
  refine PySem.W.kla_eval hdef ?_
  cases among : codeAmong pos ps.toList with
  | some cv =>
    obtain ⟨c', rfl, known⟩ := ha pos cv among
    refine PySem.W.kla_makeFunctionHit (mg := X.mg) (c := c) (P := P) (ps := ps) (closure_ok hfree) I.ok.glob glob hcode code tabP ht among bm fun ctv h' tk grow size => ?_
    exact hit h'.objs.size c' ((X.mg "__name__").getD .none) ctv _ (I.hok.fresh size) known (I.laid (t' := tk) (fun b o e => Heap.get?_push_of_some _ (grow b o e)) size (fnO_ok (Heap.get?_push_size _ rfl)))
  | none =>
    refine PySem.W.kla_makeFunction (mg := X.mg) (c := c) (P := P) (ps := ps) (closure_ok hfree) I.ok.glob glob hcode code tabP ht among TB.gP bm fun c' ctv h' tk grow above below rec tab => ?_
    obtain ⟨c2, oc, vs, t, e2, codeAt, dat, name⟩ := rec
    cases e2
    have new := I.hok.fresh above
    have size : s.heap.objs.size ≤ h'.objs.size := Nat.le_trans above (Nat.le_of_lt below)
    have J := LamX.inv_table (t' := tk) (more := #[rawInt pos.line, rawInt pos.col, .ref c']) I hP grow tab above ⟨oc, vs, t, codeAt, dat, name⟩
    have snoc : (ps ++ #[rawInt pos.line, rawInt pos.col, .ref c']).toList = ps.toList ++ [rawInt pos.line, rawInt pos.col, .ref c'] := by simp
    refine miss h'.objs.size c' ((X.mg "__name__").getD .none) ctv _ (ps ++ #[rawInt pos.line, rawInt pos.col, .ref c']) (I.hok.fresh size) new (Nat.ne_of_gt below) (by rw [snoc]; exact PySem.TriplesOk_snoc _ _ _ _ ht) (fun p' cv hcv => ?_)
      (J.laid (t' := tk) (fun b o e => Heap.get?_push_of_some _ e) (Nat.le_refl _) (fnO_ok (Heap.get?_push_size _ rfl)))
    rw [snoc] at hcv
    rcases LamX.among_app _ ht hcv with z | z
    · exact .inr (ha p' cv z)
    · exact .inl z
end
section
variable {X : Cx} {ds : DE} {m : MS}
/-- `lambda: body` as a value -/
theorem we_lam {c T : Addr} {q : Str} {params : Arguments} {body : Expr} {scope : Scope} {pos : Pos} {P : SD → MS → Prop} (TB : TabB X.base X.mg c T) (hcode : X.env.code = .ref c) (hT : (T, OV.tab q) ∈ m) (L : LamS X.env.scope scope) (hq : q = X.env.qual ++ "<lambda>") (hdef : defaultsOf params X.env = ([], []))
    (h : P (FnS q params body scope (cloFrom X.env.cells scope.names [])) m) : WE X (.Lambda params body scope pos) ds m P := fun σ G H E w Q k => by
  intro pins s I
  obtain ⟨nG, o, hP, ps, rfl, ht, ha⟩ := w.own _ hT
  have hG : ∀ {a : Addr} {o : HO}, G a = some o → a ≠ T := fun {a o} e z => by
    have nG' : G T = none := nG
    rw [z, nG'] at e; cases e
  refine lam_made (KC := fun c => G c = some (CodeO c q)) I TB hcode hq hP ht ha hdef (L.has I.ok) (fun f c' pm ctv s' hf hc J => ?_) fun f c' pm ctv s' ps' hf hc hfc ht' ha' J => ?_
  · refine ⟨.ref f, _, J, rfl, ?_⟩
    have g := Gr.new (o := FnO f q params body scope (cloFrom X.env.cells scope.names []) pm c' ctv) w hf
    exact k _ _ _ _ _ g (fnS_mk upd_same (g.g _ _ hc)) h
  · refine ⟨.ref f, _, J, rfl, ?_⟩
    have g1 := Gr.new (o := CodeO c' q) w hc
    have nT : T ≠ c' := fun z => by rw [← z, hP] at hc; cases hc
    have g2 := Gr.set (o := .tbl ps') (v := .tab q) g1.wd hT ⟨ps', rfl, ht', fun p cv e => by
      rcases ha' p cv e with rfl | ⟨c2, rfl, z⟩
      · exact ⟨c', rfl, upd_same⟩
      · exact ⟨c2, rfl, g1.g _ _ z⟩⟩
    rw [mset_id w hT] at g2
    have eH : upd (upd H c' (CodeO c' q)) T (.tbl ps') = upd (upd H T (.tbl ps')) c' (CodeO c' q) := by
      funext b
      by_cases e : b = T
      · rw [e, upd_same, upd_ne nT, upd_same]
      · by_cases e2 : b = c'
        · rw [e2, upd_ne (Ne.symm nT), upd_same, upd_same]
        · rw [upd_ne e, upd_ne e2, upd_ne e2, upd_ne e]
    rw [eH] at g2
    have hf' : upd (upd H T (.tbl ps')) c' (CodeO c' q) f = none := by
      rw [upd_ne hfc, upd_ne (fun z => by rw [z, hP] at hf; cases hf)]; exact hf
    have g3 := Gr.new (o := FnO f q params body scope (cloFrom X.env.cells scope.names []) pm c' ctv) g2.wd hf'
    exact k _ _ _ _ _ ((g1.trans g2).trans g3) (fnS_mk upd_same (by rw [upd_ne (Ne.symm hfc)]; exact upd_same)) h
end
end W9
namespace W9
open PySem PySem.Spec PyProof.Rows L2 LamX
/-- such a function, with what its maker's slots hold -/
def FnE (K : PySem.W.Frag) (q : Str) (params : Arguments) (body : Expr) (scope : Scope) (cl : List (Str × Addr)) (σ : L2.St) (ds : DE) : SD := .ob fun v G => (∃ f c' pm ctv, v = .ref f ∧ G f = some (FnO f q params body scope cl pm c' ctv) ∧ G c' = some (CodeO c' q)) ∧ EnvD K G σ ds
end W9
namespace W9
open PySem PySem.Spec PyProof.Rows L2 LamX
/-! ### comprehensions whose blocks know their cells -/
/-! ### the same over data -/
end W9
namespace W9
open PySem PySem.Spec PyProof.Rows L2
/-! ### rows of entries, by key -/
def keyP : Key → PyData
  | .inl i => .int i
  | .inr x => .str x
abbrev De (ps : List (PyData × PyData)) : SD := .py (.dict ps)
section
variable {α β : Type}
def getK (l : List (Key × α)) (k : Key) : Option α := (l.find? fun q => decide (q.1 = k)).map (·.2)
def setK (l : List (Key × α)) (k : Key) (a : α) : List (Key × α) := if (l.any fun q => decide (q.1 = k)) = true then l.map (fun q => if q.1 = k then (q.1, a) else q) else l ++ [(k, a)]
def delK (l : List (Key × α)) (k : Key) : List (Key × α) := l.filter fun q => decide (q.1 ≠ k)
def mrgK (l more : List (Key × α)) : List (Key × α) := more.foldl (fun acc q => setK acc q.1 q.2) l
theorem getK_pos {k : Key} {a : α} {l : List (Key × α)} : getK ((k, a) :: l) k = some a := by simp [getK]
theorem getK_neg {k j : Key} {a : α} {l : List (Key × α)} (h : j ≠ k) : getK ((j, a) :: l) k = getK l k := by simp [getK, h]
end
section
variable {K : PySem.W.Frag} {G : Hp}
theorem dsk_any : ∀ {kvs : List (Key × V)} {l : List (Key × SD)} (k : Key), DSk K G kvs l → (kvs.any fun q => decide (q.1 = k)) = l.any fun q => decide (q.1 = k)
  | _, _, _, .nil => rfl
  | _, _, k, .cons j _ a => by rw [List.any_cons, List.any_cons, dsk_any k a]
theorem dsk_len : ∀ {kvs : List (Key × V)} {l : List (Key × SD)}, DSk K G kvs l → kvs.length = l.length
  | _, _, .nil => rfl
  | _, _, .cons _ _ a => by rw [List.length_cons, List.length_cons, dsk_len a]
theorem dsk_get : ∀ {kvs : List (Key × V)} {l : List (Key × SD)} {k : Key} {d : SD}, DSk K G kvs l → getK l k = some d → ∃ v, valV kvs k = some v ∧ DS K G v d
  | _, _, _, _, .nil, e => by cases e
  | _, _, k, d, .cons (kvs := kvs) (l := l) (v := v) (d := d') j h a, e => by
    by_cases z : j = k
    · subst z
      rw [getK_pos] at e
      cases e
      exact ⟨v, valV_pos rfl, h⟩
    · rw [getK_neg z] at e
      obtain ⟨v', e1, e2⟩ := dsk_get a e
      exact ⟨v', by rw [valV_neg (p := (j, v)) z]; exact e1, e2⟩
theorem dsk_miss : ∀ {kvs : List (Key × V)} {l : List (Key × SD)} {k : Key}, DSk K G kvs l → getK l k = none → valV kvs k = none
  | _, _, _, .nil, _ => rfl
  | _, _, k, .cons (v := v) j h a, e => by
    by_cases z : j = k
    · subst z
      rw [getK_pos] at e
      cases e
    · rw [getK_neg z] at e
      rw [valV_neg (p := (j, v)) z]
      exact dsk_miss a e
theorem dsk_map {v : V} {d : SD} {k : Key} (hd : DS K G v d) : ∀ {kvs : List (Key × V)} {l : List (Key × SD)}, DSk K G kvs l → DSk K G (kvs.map fun q => if q.1 = k then (q.1, v) else q) (l.map fun q => if q.1 = k then (q.1, d) else q)
  | _, _, .nil => .nil
  | _, _, .cons j h a => by
    rw [List.map_cons, List.map_cons]
    by_cases z : j = k
    · rw [if_pos z, if_pos z]; exact .cons j hd (dsk_map hd a)
    · rw [if_neg z, if_neg z]; exact .cons j h (dsk_map hd a)
theorem dsk_app : ∀ {kvs us : List (Key × V)} {l r : List (Key × SD)}, DSk K G kvs l → DSk K G us r → DSk K G (kvs ++ us) (l ++ r)
  | _, _, _, _, .nil, b => b
  | _, _, _, _, .cons j h a, b => .cons j h (dsk_app a b)
theorem dsk_put {kvs : List (Key × V)} {l : List (Key × SD)} {k : Key} {v : V} {d : SD} (h : DSk K G kvs l) (hd : DS K G v d) : DSk K G (putK kvs k v) (setK l k d) := by
  unfold putK setK
  rw [dsk_any k h]
  split
  · exact dsk_map hd h
  · exact dsk_app h (.cons k hd .nil)
theorem dsk_del {k : Key} : ∀ {kvs : List (Key × V)} {l : List (Key × SD)}, DSk K G kvs l → DSk K G (dropK kvs k) (delK l k)
  | _, _, .nil => .nil
  | _, _, .cons (kvs := kvs) (l := l) (v := v) (d := d) j h a => by
    have ih := dsk_del (k := k) a
    by_cases z : j = k
    · have e1 : dropK ((j, v) :: kvs) k = dropK kvs k := List.filter_cons_of_neg (by simp [z])
      have e2 : delK ((j, d) :: l) k = delK l k := List.filter_cons_of_neg (by simp [z])
      rw [e1, e2]; exact ih
    · have e1 : dropK ((j, v) :: kvs) k = (j, v) :: dropK kvs k := List.filter_cons_of_pos (by simp [z])
      have e2 : delK ((j, d) :: l) k = (j, d) :: delK l k := List.filter_cons_of_pos (by simp [z])
      rw [e1, e2]; exact .cons j h ih
theorem dsk_mrg : ∀ {us : List (Key × V)} {r : List (Key × SD)} {kvs : List (Key × V)} {l : List (Key × SD)}, DSk K G us r → DSk K G kvs l → DSk K G (mergeK kvs us) (mrgK l r)
  | _, _, _, _, .nil, b => b
  | _, _, kvs, l, .cons (kvs := us) (l := r) (v := v) (d := d) k h a, b => by
    show DSk K G (mergeK (putK kvs k v) us) (mrgK (setK l k d) r)
    exact dsk_mrg a (dsk_put b h)
theorem dsk_pairs : ∀ {l : List (Key × PyData)} {kvs : List (Key × V)}, DSk K G kvs (l.map fun q => (q.1, .py q.2)) → DpKv K G kvs (l.map fun q => (keyP q.1, q.2))
  | [], _, h => by cases h; exact .nil
  | (k, d) :: l, _, h => by
    cases h with
    | cons _ h a =>
      cases h with
      | py h =>
        cases k with
        | inl i => exact .consI i h (dsk_pairs a)
        | inr x => exact .consS x h (dsk_pairs a)
theorem dpk_dsk : ∀ {l : List (Key × PyData)} {kvs : List (Key × V)}, DpKv K G kvs (l.map fun q => (keyP q.1, q.2)) → DSk K G kvs (l.map fun q => (q.1, .py q.2))
  | [], _, h => by cases h; exact .nil
  | (.inl i, d) :: l, _, h => by
    cases h with
    | consI _ h a => exact .cons _ (.py h) (dpk_dsk a)
  | (.inr x, d) :: l, _, h => by
    cases h with
    | consS _ h a => exact .cons _ (.py h) (dpk_dsk a)
end
/-- a dict as data -/
abbrev Dd (l : List (Key × PyData)) : SD := De (l.map fun q => (keyP q.1, q.2))
theorem ds_dct {K : PySem.W.Frag} {G : Hp} {v : V} {l : List (Key × PyData)} (h : DS K G v (Dd l)) : ∃ a o kvs, v = .ref a ∧ G a = some (.frz o (.dK kvs)) ∧ DSk K G kvs (l.map fun q => (q.1, .py q.2)) := by
  cases h with
  | py h => cases h with
    | dct h1 h2 => exact ⟨_, _, _, rfl, h1, dpk_dsk h2⟩
theorem own_ds {K : PySem.W.Frag} {G H : Hp} {m : MS} {p : Addr} {l : List (Key × SD)} (w : Wd K m G H) (h : (p, OV.ds l) ∈ m) : ∃ kvs, H p = some (.dK kvs) ∧ DSk K G kvs l := by
  obtain ⟨_, o, h1, vs, h2, h3⟩ := w.own _ h
  subst h2
  exact ⟨vs, h1, h3⟩
section
variable {X : Cx} {ds : DE} {m : MS} {e a b c o i f : Expr} {st : Stmt} {sts : List Stmt} {pos apos cpos : Pos}
/-! ### a dict that is owned -/
theorem we_dnew {P : SD → MS → Prop} (h : ∀ p, p ∉ ad m → P (.raw (.ref p)) ((p, .ds []) :: m)) : WE X (.Dict [] [] pos) ds m P := fun σ G H E w Q q => oE pe_dnewK fun p hp => by
  have g := Gr.made (o := .dK []) (v := .ds []) w hp ⟨[], rfl, .nil⟩
  exact q _ _ _ _ _ g (.raw _) (h p fun z => (List.nodup_cons.mp g.wd.nd).1 z)
/-- entries of a display: constant keys, values that are functions of what is there -/
def EPs (X : Cx) (pos : Pos) (ks : List (Option Expr)) (vs : List Expr) (ds : DE) (l : List (Key × SD)) : Prop :=
  ∃ trs, PPs X pos ks vs trs ∧ ∀ m σ G H, EnvD X.K G σ ds → Wd X.K m G H → ∀ Q : List (V × V) → Hp → Prop, (∀ kvs G' H', Gr X.K m m G H G' H' → DSk X.K G' kvs l → Q (kvs.map fun q => (kV q.1, q.2)) H') → tPairs trs σ H Q
theorem eps_nil : EPs X pos [] [] ds [] := ⟨[], pps_nil, fun m σ G H E w Q q => q [] G H (.refl w) .nil⟩
theorem eps_cons {k : Key} {ke ve : Expr} {d : SD} {ks : List (Option Expr)} {vs : List Expr} {l : List (Key × SD)} (hk : EE X ke ds (.py (keyP k))) (hv : EE X ve ds d) (hr : EPs X pos ks vs ds l) : EPs X pos (some ke :: ks) (ve :: vs) ds ((k, d) :: l) := by
  obtain ⟨trs, p, h⟩ := hr
  refine ⟨_, pps_cons (pE ke) (pE ve) p, fun m σ G H E w Q q => ?_⟩
  refine hk m σ G H E w _ fun v1 d1 m1 G1 H1 g1 r1 ⟨e1, e2⟩ => ?_
  subst e1 e2
  refine hv m1 σ G1 H1 (E.mono g1.g) g1.wd _ fun v2 d2 m2 G2 H2 g2 r2 ⟨e1, e2⟩ => ?_
  subst e1 e2
  refine h m2 σ G2 H2 (E.mono (g1.trans g2).g) g2.wd _ fun kvs G3 H3 g3 r3 => ?_
  have ev : v1 = kV k := by
    cases k with
    | inl i => exact ds_int r1
    | inr x => exact ds_str r1
  subst ev
  exact q ((k, v2) :: kvs) G3 H3 ((g1.trans g2).trans g3) (.cons k (ds_mono g3.g r2) r3)
theorem we_ddisp {ks : List (Option Expr)} {vs : List Expr} {l : List (Key × SD)} {P : SD → MS → Prop} (h : EPs X pos ks vs ds l) (k : ∀ p, p ∉ ad m → P (.raw (.ref p)) ((p, .ds (mrgK [] l)) :: m)) (hl : l.length ≤ 15 := by decide)
    (h1 : ks.all (·.isSome) = true := by rfl) (h2 : ks.length = vs.length := by rfl) (h0 : ks ≠ [] := by exact List.cons_ne_nil _ _) (h15 : ks.length ≤ 15 := by decide) : WE X (.Dict ks vs pos) ds m P := fun σ G H E w Q q => by
  obtain ⟨trs, p, h⟩ := h
  refine oE (pe_disp p h1 h2 h0 h15) fun a ha => ?_
  have g := Gr.made (o := .dK []) (v := .ds []) w ha ⟨[], rfl, .nil⟩
  refine h _ σ G _ E g.wd _ fun kvs G' H' g2 r => ?_
  obtain ⟨us, e1, e2⟩ := own_ds g2.wd List.mem_cons_self
  cases e2
  refine ⟨e1, kvs, rfl, by rw [dsk_len r]; exact hl, ?_⟩
  have g3 := Gr.set (o := .dK (mergeK [] kvs)) (v := .ds (mrgK [] l)) g2.wd List.mem_cons_self ⟨_, rfl, dsk_mrg r .nil⟩
  have em : mset ((a, OV.ds []) :: m) a (.ds (mrgK [] l)) = (a, .ds (mrgK [] l)) :: m := by
    have nd := g.wd.nd
    unfold ad at nd
    rw [List.map_cons, List.nodup_cons] at nd
    unfold mset
    rw [List.map_cons, if_pos rfl]
    congr 1
    refine (List.map_congr_left fun q hq => ?_).trans (List.map_id _)
    rw [if_neg fun z => nd.1 (List.mem_map.mpr ⟨q, hq, z⟩)]
    rfl
  rw [em] at g3
  exact q _ _ _ _ _ ((g.trans g2).trans g3) (.raw _) (k a fun z => (List.nodup_cons.mp g.wd.nd).1 z)
/-- d[k] = e -/
theorem ws_putD {tpos : Pos} {p : Addr} {k : Key} {E : ED} (hu : X.A.units + 1 < cLine) (ho : EE X o ds (.raw (.ref p))) (hi : EE X i ds (.py (keyP k))) (h : WE X e ds m fun d m1 => ∃ l, (p, OV.ds l) ∈ m1 ∧ l.length < 1000000 ∧ E.nx ds (mset m1 p (.ds (setK l k d))))
    (hs : swapsWith e (some (.Subscript o i tpos)) pos.line X.env = pure false := by rfl) : WS X (.Assign [.Subscript o i tpos] e pos) ds m E := fun σ G H e0 w D kk => oS (ps_dput hu (pE o) (pE i) (pE e) hs) (by
  refine h σ G H e0 w _ fun v d m1 G1 H1 g1 r1 ⟨l, hm, hl, p1⟩ => ?_
  refine ho m1 σ G1 H1 (e0.mono g1.g) g1.wd _ fun v2 d2 m2 G2 H2 g2 r2 ⟨e1, e2⟩ => ?_
  subst e1 e2
  cases ds_raw r2
  refine hi m2 σ G2 H2 (e0.mono (g1.trans g2).g) g2.wd _ fun v3 d3 m3 G3 H3 g3 r3 ⟨e1, e2⟩ => ?_
  subst e1 e2
  obtain ⟨kvs, e1, e2⟩ := own_ds g3.wd hm
  have ev : v3 = kV k := by
    cases k with
    | inl i => exact ds_int r3
    | inr x => exact ds_str r3
  subst ev
  refine ⟨p, _, rfl, DPut.k (k := k) e1 (by rw [dsk_len e2]; have := sizeLine_eq; omega), ?_⟩
  have g4 := Gr.set (o := .dK (putK kvs k v)) (v := .ds (setK l k d)) g3.wd hm ⟨_, rfl, dsk_put e2 (ds_mono (g2.trans g3).g r1)⟩
  exact kk.nx _ _ _ _ _ (((g1.trans g2).trans g3).trans g4) (e0.mono ((g1.trans g2).trans g3).g) p1)
/-- d[k] -/
theorem we_getD {p : Addr} {k : Key} {l : List (Key × SD)} {d : SD} {P : SD → MS → Prop} (hu : X.A.units + 1 < cLine) (ho : EE X o ds (.raw (.ref p))) (hi : EE X i ds (.py (keyP k))) (hm : (p, OV.ds l) ∈ m) (hg : getK l k = some d) (h : P d m) (hs : NoSl i := by exact fun _ _ => rfl) :
    WE X (.Subscript o i pos) ds m P := fun σ G H E w Q q => oE (pe_dget hu (pE o) (pE i) hs) (by
  refine ho m σ G H E w _ fun v1 d1 m1 G1 H1 g1 r1 ⟨e1, e2⟩ => ?_
  subst e1 e2
  cases ds_raw r1
  refine hi m1 σ G1 H1 (E.mono g1.g) g1.wd _ fun v2 d2 m2 G2 H2 g2 r2 ⟨e1, e2⟩ => ?_
  subst e1 e2
  obtain ⟨kvs, e1, e2⟩ := own_ds g2.wd hm
  have ev : v2 = kV k := by
    cases k with
    | inl i => exact ds_int r2
    | inr x => exact ds_str r2
  subst ev
  obtain ⟨v, e3, e4⟩ := dsk_get e2 hg
  exact ⟨p, v, rfl, by have z := DGet.k (k := k) e1; rw [e3] at z; exact z, q _ _ _ _ _ (g1.trans g2) e4 h⟩)
/-- the same of a dict that is data -/
theorem ee_getD {l : List (Key × PyData)} {k : Key} {d : PyData} (hu : X.A.units + 1 < cLine) (ho : EE X o ds (Dd l)) (hi : EE X i ds (.py (keyP k))) (hg : getK l k = some d) (hs : NoSl i := by exact fun _ _ => rfl) : EE X (.Subscript o i pos) ds (.py d) := fun m σ G H E w Q q => oE (pe_dget hu (pE o) (pE i) hs) (by
  refine ho m σ G H E w _ fun v1 d1 m1 G1 H1 g1 r1 ⟨e1, e2⟩ => ?_
  subst e1 e2
  obtain ⟨a, ob, kvs, rfl, h1, h2⟩ := ds_dct r1
  refine hi m1 σ G1 H1 (E.mono g1.g) g1.wd _ fun v2 d2 m2 G2 H2 g2 r2 ⟨e1, e2⟩ => ?_
  subst e1 e2
  have ev : v2 = kV k := by
    cases k with
    | inl i => exact ds_int r2
    | inr x => exact ds_str r2
  subst ev
  have hg' : getK (l.map fun q => (q.1, SD.py q.2)) k = some (.py d) := by
    have gen : ∀ l : List (Key × PyData), getK (l.map fun q => (q.1, SD.py q.2)) k = (getK l k).map SD.py := fun l => by
      induction l with
      | nil => rfl
      | cons p l ih =>
        obtain ⟨j, x⟩ := p
        rw [List.map_cons]
        by_cases z : j = k
        · subst z; rw [getK_pos, getK_pos]; rfl
        · rw [getK_neg z, getK_neg z]; exact ih
    rw [gen, hg]; rfl
  obtain ⟨v, e3, e4⟩ := dsk_get h2 hg'
  exact ⟨a, v, rfl, .inl ⟨kvs, k, .inr ⟨ob, g2.wd.w _ _ (g2.g _ _ h1)⟩, rfl, e3.symm⟩, q _ _ _ _ _ (g1.trans g2) (ds_mono g2.g e4) ⟨rfl, rfl⟩⟩)
end
end W9
namespace W9
open PySem PySem.Spec PyProof.Rows L2
section
variable {K : PySem.W.Frag} {m m' : MS} {G H G' H' : Hp}
/-- new things, known from here on -/
theorem Gr.know (w : Wd K m G H) (hk : ∀ b o, H b = some o → H' b = some o) (N : List Addr) (hN : ∀ a ∈ N, H a = none) : Gr K m m G H (fun a => if a ∈ N then H' a else G a) H' := by
  have nG : ∀ a ∈ N, G a = none := fun a ha => w.w.back (hN a ha)
  have ex : Ex G (fun a => if a ∈ N then H' a else G a) := fun a o e => by
    have na : a ∉ N := fun z => by rw [nG a z] at e; cases e
    show (if a ∈ N then H' a else G a) = some o
    rw [if_neg na]; exact e
  refine ⟨ex, fun a o _ e => hk a o e, fun a e => ?_, fun a _ e f _ => ?_, fun p hp => .inl (mem_ad hp), ⟨fun a o e => ?_, fun p hp => ?_, w.nd⟩⟩
  · cases q : H a with
    | none => exact absurd q e
    | some o => rw [hk a o q]; exact fun z => nomatch z
  · have na : a ∉ N := fun z => f (hN a z)
    show (if a ∈ N then H' a else G a) = none
    rw [if_neg na]; exact e
  · have e : (if a ∈ N then H' a else G a) = some o := e
    by_cases na : a ∈ N
    · rw [if_pos na] at e; exact e
    · rw [if_neg na] at e; exact hk a o (w.w a o e)
  · obtain ⟨h1, u, h2, h3⟩ := w.own p hp
    have na : p.1 ∉ N := fun z => by rw [hN _ z] at h2; cases h2
    exact ⟨by show (if p.1 ∈ N then H' p.1 else G p.1) = none; rw [if_neg na]; exact h1, u, hk _ _ h2, ov_mono ex h3⟩
/-- an owned dict is locked for ever: it is data from here on -/
theorem Gr.lock {p : Addr} {v : OV} {o : HO} (w : Wd K ((p, v) :: m) G H) : Gr K ((p, v) :: m) m G H (upd G p o) (upd H p o) := by
  have nd := w.nd
  unfold ad at nd
  rw [List.map_cons, List.nodup_cons] at nd
  have ne : ∀ q ∈ m, q.1 ≠ p := fun q hq z => nd.1 (List.mem_map.mpr ⟨q, hq, z⟩)
  have ex : Ex G (upd G p o) := Ex.new (w.own _ List.mem_cons_self).1
  refine ⟨ex, fun a u ha e => ?_, fun a e => ?_, fun a ha e f _ => ?_, fun q hq => .inl (mem_ad (List.mem_cons_of_mem _ hq)), ⟨w.w.both, fun q hq => ?_, nd.2⟩⟩
  · have na : a ≠ p := fun z => ha (by rw [z]; exact List.mem_cons_self)
    rw [upd_ne na]; exact e
  · by_cases z : a = p
    · subst z; rw [upd_same]; exact fun z => nomatch z
    · rw [upd_ne z]; exact e
  · have na : a ≠ p := fun z => ha (by rw [z]; exact List.mem_cons_self)
    rw [upd_ne na]; exact e
  · obtain ⟨h1, u, h2, h3⟩ := w.own q (List.mem_cons_of_mem _ hq)
    rw [upd_ne (ne q hq), upd_ne (ne q hq)]
    exact ⟨h1, u, h2, ov_mono ex h3⟩
end
theorem getK_py {l : List (Key × PyData)} {k : Key} : getK (l.map fun q => (q.1, SD.py q.2)) k = (getK l k).map SD.py := by
  induction l with
  | nil => rfl
  | cons p l ih =>
    obtain ⟨j, x⟩ := p
    rw [List.map_cons]
    by_cases z : j = k
    · subst z; rw [getK_pos, getK_pos]; rfl
    · rw [getK_neg z, getK_neg z]; exact ih
abbrev pyK (l : List (Key × PyData)) : List (Key × SD) := l.map fun q => (q.1, .py q.2)
section
variable {X : Cx} {ds : DE} {m : MS} {e a b c o i f : Expr} {st : Stmt} {sts : List Stmt} {pos apos cpos : Pos}
theorem lock_run {pins : List (Addr × Obj)} {σ : L2.St} {G H : Hp} {s : Shared} {p : Addr} {l : List (Key × PyData)} (w : Wd X.K ((p, .ds (pyK l)) :: m) G H) (I : Inv X pins σ H s) :
    ∃ G' H', Gr X.K ((p, .ds (pyK l)) :: m) m G H G' H' ∧ DS X.K G' (.ref p) (Dd l) ∧ Inv X pins σ H' s := by
  obtain ⟨kvs, e1, e2⟩ := own_ds w List.mem_cons_self
  obtain ⟨od, J⟩ := I.lock e1 True.intro
  have g := Gr.lock (o := .frz od (.dK kvs)) w
  exact ⟨_, _, g, .py (.dct upd_same (dpk_mono g.g (dsk_pairs e2))), J⟩
/-- a dict that is owned becomes data -/
theorem wss_sealD {i : Nat} {p : Addr} {l : List (Key × PyData)} {E : ED} (hd : ds[i]? = some (some (.raw (.ref p)))) (h : WSs X sts (ds.set i (some (Dd l))) m E) : WSs X sts ds ((p, .ds (pyK l)) :: m) E := fun σ G H e0 w D k => by
  intro pins s I
  obtain ⟨G', H', g, r, J⟩ := lock_run w I
  obtain ⟨v, hv, hr⟩ := e0.2 _ _ hd
  cases ds_raw hr
  exact h σ G' H' ((e0.mono g.g).retype hv r) g.wd D (k.after g) pins s J
/-- .. that stands in another owned one -/
theorem dsk_retype {K : PySem.W.Frag} {G : Hp} {p : Addr} {d : SD} {k : Key} (hr : DS K G (.ref p) d) : ∀ {kvs : List (Key × V)} {l : List (Key × SD)}, DSk K G kvs l → getK l k = some (.raw (.ref p)) → (l.map (·.1)).Nodup → DSk K G kvs (l.map fun q => if q.1 = k then (q.1, d) else q)
  | _, _, .nil, e, _ => by cases e
  | _, _, .cons (kvs := kvs) (l := l) (v := v) j h a, e, nd => by
    rw [List.map_cons, List.nodup_cons] at nd
    rw [List.map_cons]
    by_cases z : j = k
    · subst z
      rw [getK_pos] at e
      cases e
      rw [if_pos rfl]
      cases ds_raw h
      refine .cons j hr ?_
      have same : (l.map fun q => if q.1 = j then (q.1, d) else q) = l := by
        refine (List.map_congr_left fun q hq => ?_).trans (List.map_id _)
        rw [if_neg fun z => nd.1 (List.mem_map.mpr ⟨q, hq, z⟩)]
        rfl
      rw [same]; exact a
    · rw [getK_neg z] at e
      rw [if_neg z]
      exact .cons j h (dsk_retype hr a e nd.2)
theorem Wd.reown {K : PySem.W.Frag} {G H : Hp} {p : Addr} {u v : OV} (w : Wd K m G H) (hm : (p, u) ∈ m) (h : ∀ o, H p = some o → OVok K G u o → OVok K G v o) : Gr K m (mset m p v) G H G H := by
  obtain ⟨h1, o, h2, h3⟩ := w.own _ hm
  have g := Gr.set w hm (h o h2 h3)
  have e : upd H p o = H := by
    funext b
    by_cases z : b = p
    · rw [z, upd_same]; exact h2.symm
    · rw [upd_ne z]
  rw [e] at g
  exact g
theorem wss_sealIn {p q : Addr} {k : Key} {l : List (Key × PyData)} {r : List (Key × SD)} {E : ED} (hm : (q, OV.ds r) ∈ m) (hg : getK r k = some (.raw (.ref p))) (nd : (r.map (·.1)).Nodup)
    (h : WSs X sts ds (mset m q (.ds (r.map fun z => if z.1 = k then (z.1, Dd l) else z))) E) : WSs X sts ds ((p, .ds (pyK l)) :: m) E := fun σ G H e0 w D kk => by
  intro pins s I
  obtain ⟨G', H', g, r', J⟩ := lock_run w I
  have g2 := Wd.reown (v := .ds (r.map fun z => if z.1 = k then (z.1, Dd l) else z)) g.wd hm fun o _ ⟨kvs, e1, e2⟩ => ⟨kvs, e1, dsk_retype r' e2 hg nd⟩
  exact h σ G' H' (e0.mono (g.trans g2).g) g2.wd D (kk.after (g.trans g2)) pins s J
/-! ### in, get -/
theorem key_v {K : PySem.W.Frag} {G : Hp} {v : V} {k : Key} (h : DS K G v (.py (keyP k))) : v = kV k := by
  cases k with
  | inl i => exact ds_int h
  | inr x => exact ds_str h
theorem get_some {kvs : List (Key × V)} {l : List (Key × SD)} {K : PySem.W.Frag} {G : Hp} (k : Key) (h : DSk K G kvs l) : (valV kvs k).isSome = (getK l k).isSome := by
  cases e : getK l k with
  | none => rw [dsk_miss h e]; rfl
  | some d =>
    obtain ⟨v, e1, _⟩ := dsk_get h e
    rw [e1]; rfl
/-- a dict: owned, or data -/
def IsDk (X : Cx) (o : Expr) (ds : DE) (m : MS) (l : List (Key × SD)) : Prop := (∃ p, EE X o ds (.raw (.ref p)) ∧ (p, OV.ds l) ∈ m) ∨ ∃ r, EE X o ds (Dd r) ∧ l = pyK r
theorem dk_own {p : Addr} {l : List (Key × SD)} (h : EE X o ds (.raw (.ref p))) (hm : (p, OV.ds l) ∈ m) : IsDk X o ds m l := .inl ⟨p, h, hm⟩
theorem dk_dat {l : List (Key × PyData)} (h : EE X o ds (Dd l)) : IsDk X o ds m (pyK l) := .inr ⟨l, h, rfl⟩
theorem mset_self {K : PySem.W.Frag} {G H : Hp} {m : MS} (w : Wd K m G H) {p : Addr} {v : OV} (h : (p, v) ∈ m) : mset m p v = m := by
  have nd := w.nd
  clear w
  unfold mset
  induction m with
  | nil => rfl
  | cons a m ih =>
    unfold ad at nd ih
    rw [List.map_cons, List.nodup_cons] at nd
    rw [List.map_cons]
    by_cases e : a.1 = p
    · rw [if_pos e]
      have ea : a = (p, v) := by
        rcases List.mem_cons.mp h with z | z
        · exact z.symm
        · exact absurd (by rw [e]; exact List.mem_map_of_mem z) nd.1
      have rest : m.map (fun q => if q.1 = p then (p, v) else q) = m := by
        have : ∀ q ∈ m, (if q.1 = p then (p, v) else q) = q := fun q hq => if_neg fun z => nd.1 (by rw [e, ← z]; exact List.mem_map_of_mem hq)
        rw [List.map_congr_left this, List.map_id']
      rw [rest, ea]
    · rw [if_neg e]
      congr 1
      refine ih ?_ nd.2
      rcases List.mem_cons.mp h with z | z
      · exact absurd (by rw [← z]) e
      · exact z
theorem IsDk.run {l : List (Key × SD)} (h : IsDk X o ds m l) {σ : L2.St} {G H : Hp} (E : EnvD X.K G σ ds) (w : Wd X.K m G H) {Q : VK}
    (q : ∀ a G1 H1, Gr X.K m m G H G1 H1 → (∀ G2 H2, Gr X.K m m G1 H1 G2 H2 → ∃ kvs, Rd H2 a (.dK kvs) ∧ DSk X.K G2 kvs l) → Q (.ref a) H1) : wE X o σ H Q := by
  rcases h with ⟨p, h, hm⟩ | ⟨r, h, rfl⟩
  · refine h m σ G H E w _ fun v d m1 G1 H1 g1 r1 ⟨e1, e2⟩ => ?_
    subst e1 e2
    cases ds_raw r1
    refine q p G1 H1 g1 fun G2 H2 g2 => ?_
    obtain ⟨kvs, e1, e2⟩ := own_ds g2.wd hm
    exact ⟨kvs, .inl e1, e2⟩
  · refine h m σ G H E w _ fun v d m1 G1 H1 g1 r1 ⟨e1, e2⟩ => ?_
    subst e1 e2
    obtain ⟨a, ob, kvs, rfl, h1, h2⟩ := ds_dct r1
    exact q a G1 H1 g1 fun G2 H2 g2 => ⟨kvs, .inr ⟨ob, g2.wd.w _ _ (g2.g _ _ h1)⟩, dsk_mono g2.g h2⟩
theorem rd_in {H : Hp} {a : Addr} {kvs : List (Key × V)} {k : Key} (h : Rd H a (.dK kvs)) : DGet H a (kV k) (valV kvs k) := .inl ⟨kvs, k, h, rfl, rfl⟩
theorem wt_ninD {k : Key} {l : List (Key × SD)} {P : Bool → MS → Prop} (hu : X.A.units + 1 < cLine) (hi : EE X i ds (.py (keyP k))) (ho : IsDk X o ds m l) (h : P (!(getK l k).isSome) m) (hm : behindInMarks .NotIn o = false := by first | exact nobehind _ (by decide) (by decide) | rfl) : WT X (.Compare i [.NotIn] [o] pos) ds m P := fun σ G H E w Q q =>
  oT (pt_cmp (pc_dnotin hu (pE i) (pE o)) hm) (hi m σ G H E w _ fun v d m1 G1 H1 g1 r1 ⟨e1, e2⟩ => by
    subst e1 e2
    cases key_v r1
    refine ho.run (E.mono g1.g) g1.wd fun a G2 H2 g2 hd => ?_
    obtain ⟨kvs, e1, e2⟩ := hd G2 H2 (.refl g2.wd)
    exact ⟨a, _, rfl, rd_in e1, _, rfl, q _ _ _ _ (g1.trans g2) (by rw [get_some k e2]; exact h)⟩)
theorem we_inD {k : Key} {l : List (Key × SD)} {P : SD → MS → Prop} (hu : X.A.units + 1 < cLine) (hi : EE X i ds (.py (keyP k))) (ho : IsDk X o ds m l) (h : P (B (getK l k).isSome) m) (hm : behindInMarks .In o = false := by first | exact nobehind _ (by decide) (by decide) | rfl) : WE X (.Compare i [.In] [o] pos) ds m P := fun σ G H E w Q q =>
  oE (pe_cmp (pc_din hu (pE i) (pE o)) hm) (hi m σ G H E w _ fun v d m1 G1 H1 g1 r1 ⟨e1, e2⟩ => by
    subst e1 e2
    cases key_v r1
    refine ho.run (E.mono g1.g) g1.wd fun a G2 H2 g2 hd => ?_
    obtain ⟨kvs, e1, e2⟩ := hd G2 H2 (.refl g2.wd)
    exact ⟨a, _, rfl, rd_in e1, q _ _ _ _ _ (g1.trans g2) (.py (.bl _)) (by rw [get_some k e2]; exact h)⟩)
theorem we_ninD {k : Key} {l : List (Key × SD)} {P : SD → MS → Prop} (hu : X.A.units + 1 < cLine) (hi : EE X i ds (.py (keyP k))) (ho : IsDk X o ds m l) (h : P (B (!(getK l k).isSome)) m) (hm : behindInMarks .NotIn o = false := by first | exact nobehind _ (by decide) (by decide) | rfl) : WE X (.Compare i [.NotIn] [o] pos) ds m P := fun σ G H E w Q q =>
  oE (pe_cmp (pc_dnotin hu (pE i) (pE o)) hm) (hi m σ G H E w _ fun v d m1 G1 H1 g1 r1 ⟨e1, e2⟩ => by
    subst e1 e2
    cases key_v r1
    refine ho.run (E.mono g1.g) g1.wd fun a G2 H2 g2 hd => ?_
    obtain ⟨kvs, e1, e2⟩ := hd G2 H2 (.refl g2.wd)
    exact ⟨a, _, rfl, rd_in e1, q _ _ _ _ _ (g1.trans g2) (.py (.bl _)) (by rw [get_some k e2]; exact h)⟩)
/-- d.get(k, f) -/
theorem we_get2D {k : Key} {l : List (Key × SD)} {z : SD} {P : SD → MS → Prop} (hu : X.A.units + 1 < cLine) (ho : IsDk X o ds m l) (hi : EE X e ds (.py (keyP k))) (hf : EE X f ds z) (h : P ((getK l k).getD z) m) (hM : M2 X o "get" apos e f cpos := by exact ⟨rfl, rfl, rfl, rfl⟩) :
    WE X (.Call (.Attribute o "get" apos) [e, f] [] cpos) ds m P := fun σ G H E w Q q =>
  oE (pe_dget2 hu (pE o) (pE e) (pE f) hM) (ho.run E w fun a G1 H1 g1 hd => by
    obtain ⟨kvs0, e0, _⟩ := hd G1 H1 (.refl g1.wd)
    refine ⟨a, rfl, .inl ⟨kvs0, e0⟩, ?_⟩
    refine hi m σ G1 H1 (E.mono g1.g) g1.wd _ fun v2 d2 m2 G2 H2 g2 r2 ⟨e1, e2⟩ => ?_
    subst e1 e2
    cases key_v r2
    refine hf m2 σ G2 H2 (E.mono (g1.trans g2).g) g2.wd _ fun v3 d3 m3 G3 H3 g3 r3 ⟨e1, e2⟩ => ?_
    subst e1 e2
    obtain ⟨kvs, e1, e2⟩ := hd G3 H3 (g2.trans g3)
    refine ⟨_, rd_in e1, ?_⟩
    cases gk : getK l k with
    | none =>
      rw [gk] at h
      rw [dsk_miss e2 gk]
      exact q _ _ _ _ _ ((g1.trans g2).trans g3) r3 h
    | some d =>
      rw [gk] at h
      obtain ⟨v, z1, z2⟩ := dsk_get e2 gk
      rw [z1]
      exact q _ _ _ _ _ ((g1.trans g2).trans g3) z2 h)
/-- d.pop(k), k there -/
theorem we_pop1D {p : Addr} {k : Key} {l : List (Key × SD)} {d : SD} {P : SD → MS → Prop} (ho : EE X o ds (.raw (.ref p))) (hi : EE X e ds (.py (keyP k))) (hm : (p, OV.ds l) ∈ m) (hg : getK l k = some d) (h : P d (mset m p (.ds (delK l k)))) (hM : M1 X o "pop" apos e cpos := by exact ⟨rfl, rfl, rfl, rfl⟩) :
    WE X (.Call (.Attribute o "pop" apos) [e] [] cpos) ds m P := fun σ G H E w Q q =>
  oE (pe_dpop1 (pE o) (pE e) hM) (ho m σ G H E w _ fun v1 d1 m1 G1 H1 g1 r1 ⟨e1, e2⟩ => by
    subst e1 e2
    cases ds_raw r1
    obtain ⟨kvs0, e0, _⟩ := own_ds g1.wd hm
    refine ⟨p, rfl, .inl ⟨kvs0, .inl e0⟩, ?_⟩
    refine hi m1 σ G1 H1 (E.mono g1.g) g1.wd _ fun v2 d2 m2 G2 H2 g2 r2 ⟨e1, e2⟩ => ?_
    subst e1 e2
    cases key_v r2
    obtain ⟨kvs, e1, e2⟩ := own_ds g2.wd hm
    obtain ⟨v, z1, z2⟩ := dsk_get e2 hg
    have g3 := Gr.set (o := .dK (dropK kvs k)) (v := .ds (delK l k)) g2.wd hm ⟨_, rfl, dsk_del e2⟩
    exact ⟨kvs, k, v, e1, rfl, z1, q _ _ _ _ _ ((g1.trans g2).trans g3) z2 h⟩)
/-- d.pop(k, f) -/
theorem we_pop2D {p : Addr} {k : Key} {l : List (Key × SD)} {z : SD} {P : SD → MS → Prop} (ho : EE X o ds (.raw (.ref p))) (hi : EE X e ds (.py (keyP k))) (hf : EE X f ds z) (hm : (p, OV.ds l) ∈ m) (h : P ((getK l k).getD z) (mset m p (.ds (delK l k)))) (hM : M2 X o "pop" apos e f cpos := by exact ⟨rfl, rfl, rfl, rfl⟩) :
    WE X (.Call (.Attribute o "pop" apos) [e, f] [] cpos) ds m P := fun σ G H E w Q q =>
  oE (pe_dpop2 (pE o) (pE e) (pE f) hM) (ho m σ G H E w _ fun v1 d1 m1 G1 H1 g1 r1 ⟨e1, e2⟩ => by
    subst e1 e2
    cases ds_raw r1
    obtain ⟨kvs0, e0, _⟩ := own_ds g1.wd hm
    refine ⟨p, rfl, .inl ⟨kvs0, .inl e0⟩, ?_⟩
    refine hi m1 σ G1 H1 (E.mono g1.g) g1.wd _ fun v2 d2 m2 G2 H2 g2 r2 ⟨e1, e2⟩ => ?_
    subst e1 e2
    cases key_v r2
    refine hf m2 σ G2 H2 (E.mono (g1.trans g2).g) g2.wd _ fun v3 d3 m3 G3 H3 g3 r3 ⟨e1, e2⟩ => ?_
    subst e1 e2
    obtain ⟨kvs, e1, e2⟩ := own_ds g3.wd hm
    have g4 := Gr.set (o := .dK (dropK kvs k)) (v := .ds (delK l k)) g3.wd hm ⟨_, rfl, dsk_del e2⟩
    refine ⟨kvs, k, e1, rfl, fun v zv => ?_, fun zn => ?_⟩
    · cases gk : getK l k with
      | none =>
        rw [dsk_miss e2 gk] at zv
        cases zv
      | some d =>
        rw [gk] at h
        obtain ⟨v', z1, z2⟩ := dsk_get e2 gk
        rw [z1] at zv
        cases zv
        exact q _ _ _ _ _ (((g1.trans g2).trans g3).trans g4) z2 h
    · cases gk : getK l k with
      | some d =>
        obtain ⟨v', z1, z2⟩ := dsk_get e2 gk
        rw [z1] at zn
        cases zn
      | none =>
        rw [gk] at h
        have same : delK l k = l := by
          refine List.filter_eq_self.mpr fun q hq => ?_
          cases zz : decide (q.1 ≠ k) with
          | true => rfl
          | false =>
            have e : q.1 = k := by simpa using zz
            unfold getK at gk
            have z := List.find?_eq_none.mp (Option.map_eq_none_iff.mp gk) q hq
            simp [e] at z
        rw [same, mset_self w hm] at h
        exact q _ _ _ _ _ ((g1.trans g2).trans g3) r3 h)
end
end W9
namespace W9
open PySem PySem.Spec PyProof.Rows L2
section
variable {X : Cx} {e o : Expr} {te td : TE} {p apos cpos pos : Pos}
/-- list(e.items()), whether the dict is locked or not -/
theorem pe_litems (hc : X.calm = true) (he : PE X e te) (hg : Gl X "list") (hm : X.mg "list" = none) (hv : bootBuiltins "list" = some (.type "list")) (hbase : attributeBase e "items" X.env (eval e X.env) = eval e X.env) (hline : (apos.endLine == cpos.line) = true)
    (hs : starEach [.Call (.Attribute e "items" apos) [] [] cpos] X.env = (false, eval (.Call (.Attribute e "items" apos) [] [] cpos) X.env) :: starEach [] X.env) :
    PE X (.Call (.Name "list" p) [.Call (.Attribute e "items" apos) [] [] cpos] [] pos) (fun σ H Q => te σ H fun x H1 => ∃ (d : Addr) (kvs : List (Key × V)), x = .ref d ∧ Rd H1 d (.dK kvs) ∧
      ∀ (H' : Hp) (p : Addr) (ts : List Addr), (∀ b o, H1 b = some o → H' b = some o) → H1 p = none → (∀ t ∈ ts, H1 t = none) → p ∉ ts → H' p = some (.lst (ts.map V.ref)) → Paired (fun (t : Addr) (q : Key × V) => H' t = some (.tup [kV q.1, q.2])) ts kvs → Q (.ref p) H') := by
  constructor
  intro pins s σ H Q I hq
  refine wpAny_Call_Name_kw (ld_blt I hg hm hv ?_)
  refine PyProof.Rows.callWith_type1 ?_ hs rfl
  rw [hs]
  show wpAny _ _ (spliced ((false, eval (.Call (.Attribute e "items" apos) [] [] cpos) X.env) :: backTo pos (starEach [] X.env))) _ _ s
  refine Calls.spliced_cons (wpAny_Call_method (T := "dict") (id := "dict.items") hbase rfl hline F.plainAttrs_dict F.slot_dict_items F.type_dict_items (thn (he.run pins s σ H _ I hq) ?_))
  rintro u s1 ⟨x, H1, I1, rx, d, kvs, rfl, hd, q⟩
  obtain rfl : u = Value.ref d := rx
  obtain ⟨hz, hs0, vs, kv, hdo⟩ := dk_rd I1.hok hd
  obtain ⟨ep, hat⟩ := hdo.dictAt
  have lk : kvs.length = vs.length := Paired.length kv
  have J : Inv X pins σ H1 { s1 with heap := s1.heap.push { cls := .type "dict_items", data := .fields #[.ref d] } } := I1.kept (t' := s1.toks) fun b ob q => Heap.get?_push_of_some _ q
  refine ⟨hdo.typeIs, hdo.mapOf.noDict, ?_⟩
  refine method_meetsIn F.slot_dict_items F.entry_dict_items rfl (PySem.evalArgs_none ⟨rfl, hdo.typeIs, F.args_dict_items_1 _, _, meets_dict_items (mixKind X.prog X.w) d hs0, ⟨vs, hdo⟩, Calls.spliced_nil ?_⟩)
  refine PySem.W.kdx_call (knd := mixKind X.prog X.w) (kvs := vs) (ep := ep) (I1.ok.hd hc) ⟨_, Heap.get?_push_size _ rfl, rfl, rfl⟩ (hat.push _) (by omega) fun h' tk acc c as hk hS hl hG hacc => ?_
  obtain ⟨H', k1, k2, k3, k4, k5, k6, J'⟩ := LiI.items_laid (tk := tk) J hz kv hk hS hl hG hacc
  exact ⟨.ref _, H', J', rfl, q H' _ as k1 k2 k3 k4 k5 k6⟩
/-- o.update(e), both dicts with numbers or texts as keys -/
theorem pe_dupd {ty : TE} (ho : PE X o td) (he : PE X e ty) (m : M1 X o "update" apos e cpos) : PE X (.Call (.Attribute o "update" apos) [e] [] cpos) (fun σ H Q => td σ H fun x H1 => ∃ a, x = .ref a ∧ IsD H1 a ∧ ty σ H1 fun y H2 =>
      ∃ b ks ls, y = .ref b ∧ a ≠ b ∧ H2 a = some (.dK ks) ∧ Rd H2 b (.dK ls) ∧ ks.length + ls.length ≤ sizeLine ∧ Q .non (upd H2 a (.dK (mergeK ks ls)))) := by
  constructor
  intro pins s σ H Q I h
  refine wpAny_Call_method m.base m.few m.line PySem.F.plainAttrs_dict PySem.F.slot_dict_update PySem.F.type_dict_update (thn (ho.run pins s σ H _ I h) ?_)
  rintro u s1 ⟨x, H1, I1, rx, a, rfl, d, q1⟩
  obtain rfl : u = Value.ref a := rx
  obtain ⟨t1, t2, _⟩ := isD_at I1 d
  refine ⟨t1, t2, ?_⟩
  rw [m.trees]
  refine Calls.callWith_builtin rfl (Calls.evalArgs_plain (Calls.spliced_cons (thn (he.run pins s1 σ H1 _ I1 q1) ?_)))
  rintro w' s2 ⟨y, H2, I2, ry, b, ks, ls, rfl, ab, ha, hb, hz, q⟩
  obtain rfl : w' = Value.ref b := ry
  refine Calls.spliced_nil ?_
  obtain ⟨z1, s1', vs, kv, dv⟩ := dk_of I2.hok ha
  obtain ⟨z2, s2', us, ku, du⟩ := dk_rd I2.hok hb
  have l1 := KV.length kv
  have l2 := KV.length ku
  refine call_meetsIn PySem.F.slot_dict_update dv.typeIs PySem.F.entry_dict_update (PySem.F.args_dict_update_2 _ _) (meets_dict_update (mixKind X.prog X.w) a b ab s2') ⟨vs, us, dv, du, by omega, fun h' d1 d2 sb => ?_⟩
  have hl : (mergeK ks ls).length ≤ sizeLine := Nat.le_trans (length_mergeK ls ks) hz
  exact ⟨.non, _, d_write I2 (by rw [ha]; exact True.intro) sb (let ⟨q, _, _, hq, _⟩ := d1; ⟨q, hq⟩) (dk_new hl s1' (ku.merge kv) d1), rfl, q⟩
end
/-! ### over data -/
theorem dsk_at {K : PySem.W.Frag} {G : Hp} : ∀ {l : List (Key × PyData)} {kvs : List (Key × V)} {i : Nat} {k : Key} {v : V}, DSk K G kvs (l.map fun q => (q.1, .py q.2)) → kvs[i]? = some (k, v) → ∃ d, l[i]? = some (k, d) ∧ Dp K G v d
  | [], _, _, _, _, h, e => by cases h; cases e
  | (j, d) :: l, _, 0, k, v, h, e => by
    cases h with
    | cons _ h a =>
      cases e
      cases h with
      | py h => exact ⟨d, rfl, h⟩
  | (j, d) :: l, _, i + 1, k, v, h, e => by
    cases h with
    | cons _ h a => exact dsk_at (i := i) a e
theorem dsk_keys {K : PySem.W.Frag} {G : Hp} : ∀ {kvs : List (Key × V)} {l : List (Key × SD)}, DSk K G kvs l → kvs.map (·.1) = l.map (·.1)
  | _, _, .nil => rfl
  | _, _, .cons k _ a => by rw [List.map_cons, List.map_cons, dsk_keys a]
abbrev prK (l : List (Key × PyData)) : List PyData := l.map fun q => PyData.tuple [keyP q.1, q.2]
theorem dp_key {K : PySem.W.Frag} {G : Hp} (k : Key) : Dp K G (kV k) (keyP k) := by
  cases k with
  | inl i => exact .int i
  | inr x => exact .str x
theorem prK_dpa {K : PySem.W.Frag} {G : Hp} : ∀ {l : List (Key × PyData)} {kvs : List (Key × V)} {ts : List Addr}, DSk K G kvs (pyK l) → Paired (fun (t : Addr) (q : Key × V) => G t = some (.tup [kV q.1, q.2])) ts kvs → DpAll K G (ts.map V.ref) (prK l)
  | [], _, _, h, p => by cases h; cases p; exact .nil
  | (k, d) :: l, _, _, h, p => by
    cases h with
    | cons _ h a =>
      cases p with
      | cons p1 p2 =>
        cases h with
        | py h => exact .cons (.tup p1 (.cons (dp_key k) (.cons h .nil))) (prK_dpa a p2)
theorem prK_kvs {K : PySem.W.Frag} {G : Hp} : ∀ {l : List (Key × PyData)} {vs : List V}, DpAll K G vs (prK l) → ∃ (ps : List Addr) (kvs : List (Key × V)), vs = ps.map V.ref ∧ Paired (fun p (kv : Key × V) => SqT K G p [kV kv.1, kv.2]) ps kvs ∧ DSk K G kvs (pyK l)
  | [], _, h => by cases h; exact ⟨[], [], rfl, .nil, .nil⟩
  | (k, d) :: l, _, h => by
    cases h with
    | cons h1 h2 =>
      obtain ⟨ps, kvs, e1, e2, e3⟩ := prK_kvs h2
      cases h1 with
      | tup t1 t2 =>
        cases t2 with
        | cons u1 u2 =>
          cases u2 with
          | cons u2 u3 =>
            cases u3
            cases key_v (K := K) (G := G) (.py u1)
            exact ⟨_ :: ps, (k, _) :: kvs, by rw [e1]; rfl, .cons (SqT.of t1) e2, .cons k (.py u2) e3⟩
theorem sqt_mono {K : PySem.W.Frag} {G G' : Hp} (e : Ex G G') : ∀ {ps : List Addr} {kvs : List (Key × V)}, Paired (fun p (kv : Key × V) => SqT K G p [kV kv.1, kv.2]) ps kvs → Paired (fun p (kv : Key × V) => SqT K G' p [kV kv.1, kv.2]) ps kvs
  | _, _, .nil => .nil
  | _, _, .cons h t => .cons (ex_t e h) (sqt_mono e t)
section
variable {X : Cx} {ds : DE} {m : MS} {e a b c o i f : Expr} {st : Stmt} {sts : List Stmt} {pos apos cpos p : Pos}
/-- list(o.items()) -/
theorem we_litems {l : List (Key × PyData)} {P : SD → MS → Prop} (hc : X.calm = true) (hm : X.mg "list" = none) (ho : IsDk X o ds m (pyK l)) (h : P (Ls (prK l)) m) (hg : Gl X "list" := by rfl) (hv : bootBuiltins "list" = some (.type "list") := by rfl)
    (hbase : attributeBase o "items" X.env (eval o X.env) = eval o X.env := by rfl) (hline : (apos.endLine == cpos.line) = true := by rfl)
    (hs : starEach [.Call (.Attribute o "items" apos) [] [] cpos] X.env = (false, eval (.Call (.Attribute o "items" apos) [] [] cpos) X.env) :: starEach [] X.env := by rfl) :
    WE X (.Call (.Name "list" p) [.Call (.Attribute o "items" apos) [] [] cpos] [] pos) ds m P := fun σ G H E w Q q =>
  oE (pe_litems hc (pE o) hg hm hv hbase hline hs) (ho.run E w fun a G1 H1 g1 hd => by
    obtain ⟨kvs, e1, e2⟩ := hd G1 H1 (.refl g1.wd)
    refine ⟨a, kvs, rfl, e1, fun H' p' ts k1 k2 k3 k4 k5 k6 => ?_⟩
    have g2 := Gr.know g1.wd k1 (p' :: ts) (fun b hb => by
      rcases List.mem_cons.mp hb with rfl | hb
      · exact k2
      · exact k3 b hb)
    refine q _ _ _ _ _ (g1.trans g2) (.py (.lst (xs := ts.map V.ref) (SqL.of ?_) (prK_dpa (ts := ts) (dsk_mono g2.g e2) ?_))) h
    · show (if p' ∈ p' :: ts then H' p' else G1 p') = _
      rw [if_pos List.mem_cons_self]; exact k5
    · have go : ∀ {ts' : List Addr} {kvs' : List (Key × V)}, (∀ t ∈ ts', t ∈ ts) → Paired (fun (t : Addr) (q : Key × V) => H' t = some (.tup [kV q.1, q.2])) ts' kvs' → Paired (fun (t : Addr) (q : Key × V) => (fun b => if b ∈ p' :: ts then H' b else G1 b) t = some (.tup [kV q.1, q.2])) ts' kvs' := fun {ts' kvs'} sub pr => by
        induction pr with
        | nil => exact .nil
        | @cons t q ts'' kvs'' h1 h2 ih =>
          refine .cons ?_ (ih fun t ht => sub t (List.mem_cons_of_mem _ ht))
          show (if t ∈ p' :: ts then H' t else G1 t) = _
          rw [if_pos (List.mem_cons_of_mem _ (sub t List.mem_cons_self))]; exact h1
      exact go (fun _ h => h) k6)
theorem ee_litems {l : List (Key × PyData)} (hc : X.calm = true) (hm : X.mg "list" = none) (ho : EE X o ds (Dd l)) (hg : Gl X "list" := by rfl) (hv : bootBuiltins "list" = some (.type "list") := by rfl)
    (hbase : attributeBase o "items" X.env (eval o X.env) = eval o X.env := by rfl) (hline : (apos.endLine == cpos.line) = true := by rfl)
    (hs : starEach [.Call (.Attribute o "items" apos) [] [] cpos] X.env = (false, eval (.Call (.Attribute o "items" apos) [] [] cpos) X.env) :: starEach [] X.env := by rfl) :
    EE X (.Call (.Name "list" p) [.Call (.Attribute o "items" apos) [] [] cpos] [] pos) ds (Ls (prK l)) := fun m => we_litems hc hm (dk_dat ho) ⟨rfl, rfl⟩ hg hv hbase hline hs
/-- dict([(k, d), ..]) -/
theorem we_dictPr {x : Str} {l : List (Key × PyData)} {P : SD → MS → Prop} (h : WE X e ds m fun d m1 => d = Ls (prK l) ∧ ∀ p, p ∉ ad m1 → P (.raw (.ref p)) ((p, .ds (mrgK [] (pyK l))) :: m1)) (hc : X.calm = true) (hm : X.mg x = none) (hv : bootBuiltins x = some (.type "dict")) (hg : Gl X x := by rfl) (hn : x ≠ "__name__" := by decide) (hdb : (x == ("__debug__" : Str)) = false := by decide)
    (he : starEach (e :: []) X.env = (false, eval e X.env) :: starEach [] X.env := by rfl) (hpl : (backTo pos (starEach [] X.env)).any (·.1) = false := by rfl) : WE X (.Call (.Name x p) [e] [] pos) ds m P :=
  (show WE X (.Call (.Name x p) [e] [] pos) ds m P from fun σ G H E w Q q =>
  oE (pe_callTy (call_dictP hc) hg hm hv (pa_cons (pE e) pa_nil he) hn hdb he hpl) (h σ G H E w _ fun v d m1 G1 H1 g1 r1 ⟨e1, hp⟩ => by
    subst e1
    obtain ⟨f, us, rfl, h1, h2⟩ := ds_lst r1
    obtain ⟨ps, kvs, rfl, h3, h4⟩ := prK_kvs h2
    refine ⟨f, ps, kvs, rfl, ex_l g1.wd.w h1, sqt_mono g1.wd.w h3, fun p hp' => ?_⟩
    have g2 := Gr.made (o := .dK (mergeK [] kvs)) (v := .ds (mrgK [] (pyK l))) g1.wd hp' ⟨_, rfl, dsk_mrg h4 .nil⟩
    exact q _ _ _ _ _ (g1.trans g2) (.raw _) (hp p (List.nodup_cons.mp g2.wd.nd).1)))
/-- o.update(e), e a dict that was just laid; it is forgotten -/
theorem we_updD {p : Addr} {l : List (Key × SD)} {P : SD → MS → Prop} (ho : EE X o ds (.raw (.ref p))) (hm : (p, OV.ds l) ∈ m) (h : WE X e ds m fun d m1 => ∃ p2 r m2, d = .raw (.ref p2) ∧ m1 = (p2, .ds r) :: m2 ∧ (p, OV.ds l) ∈ m2 ∧ l.length + r.length ≤ 1000000 ∧ P N0 (mset m2 p (.ds (mrgK l r))))
    (hM : M1 X o "update" apos e cpos := by exact ⟨rfl, rfl, rfl, rfl⟩) : WE X (.Call (.Attribute o "update" apos) [e] [] cpos) ds m P := fun σ G H E w Q q =>
  oE (pe_dupd (pE o) (pE e) hM) (ho m σ G H E w _ fun v1 d1 m1 G1 H1 g1 r1 ⟨e1, e2⟩ => by
    subst e1 e2
    cases ds_raw r1
    obtain ⟨kvs0, e0, _⟩ := own_ds g1.wd hm
    refine ⟨p, rfl, .inl ⟨kvs0, .inl e0⟩, ?_⟩
    refine h σ G1 H1 (E.mono g1.g) g1.wd _ fun v2 d2 m2 G2 H2 g2 r2 ⟨p2, r, m3, e1, e2, e3, hl, hp⟩ => ?_
    subst e1 e2
    cases ds_raw r2
    obtain ⟨ls, f1, f2⟩ := own_ds g2.wd List.mem_cons_self
    obtain ⟨ks, f3, f4⟩ := own_ds g2.wd (List.mem_cons_of_mem _ e3)
    have ne : p ≠ p2 := fun z => by
      have nd := g2.wd.nd
      unfold ad at nd
      rw [List.map_cons, List.nodup_cons] at nd
      have y : p ∈ ad m3 := mem_ad e3
      rw [z] at y
      exact nd.1 y
    have g3 := Gr.drop g2.wd
    have g4 := Gr.set (o := .dK (mergeK ks ls)) (v := .ds (mrgK l r)) g3.wd e3 ⟨_, rfl, dsk_mrg f2 f4⟩
    refine ⟨p2, ks, ls, rfl, ne, f3, .inl f1, by rw [dsk_len f4, dsk_len f2]; have := sizeLine_eq; omega, ?_⟩
    exact q _ _ _ _ _ (((g1.trans g2).trans g3).trans g4) (.py .non) hp)
/-- for k in o, o a dict as data -/
theorem ei_dkeys {tg : Expr} {l : List (Key × PyData)} (h : EE X o ds (Dd l)) : EI X tg o ds (l.map fun q => .py (keyP q.1)) := fun m σ G H E w R' q => oI (pi_keys (pE o)) (h m σ G H E w _ fun v d m1 G1 H1 g1 r1 ⟨e1, e2⟩ => by
  subst e1 e2
  obtain ⟨a, ob, kvs, rfl, h1, h2⟩ := ds_dct r1
  have hl : kvs.length = l.length := by rw [dsk_len h2, List.length_map]
  refine ⟨a, ob, rfl, .inl ⟨kvs, g1.wd.w _ _ h1, q _ _ _ _ _ g1 ⟨fun i H e hi => ⟨e _ _ h1, ?_⟩, fun H e => ⟨e _ _ h1, ?_⟩, fun i m' G' H x H' e w' hi y => ?_⟩ ⟨rfl, rfl⟩⟩⟩
  · rw [hl]; simpa using hi
  · rw [hl]; simp
  · obtain ⟨e1, k, v, e2, e3⟩ := y
    subst e1 e3
    obtain ⟨z, z1, z2⟩ := dsk_at h2 e2
    exact ⟨G', .py (keyP k), .refl w', by rw [List.getElem?_map, z1]; rfl, .py (dp_key k)⟩)
/-- for (a, b) in o.items(), o a dict as data -/
theorem ei_ditems {elts : List Expr} {kk : Nat} {tpos : Pos} {l : List (Key × PyData)} (h : EE X o ds (Dd l)) (hbase : attributeBase o "items" X.env (eval o X.env) = eval o X.env := by rfl) (hline : (apos.endLine == cpos.line) = true := by rfl) :
    EI X (.Tuple elts kk tpos) (.Call (.Attribute o "items" apos) [] [] cpos) ds ((prK l).map .py) := fun m σ G H E w R' q => oI (pi_items (pE o) hbase hline) (h m σ G H E w _ fun v d m1 G1 H1 g1 r1 ⟨e1, e2⟩ => by
  subst e1 e2
  obtain ⟨a, ob, kvs, rfl, h1, h2⟩ := ds_dct r1
  have hl : kvs.length = l.length := by rw [dsk_len h2, List.length_map]
  refine ⟨a, ob, kvs, rfl, g1.wd.w _ _ h1, q _ _ _ _ _ g1 ⟨fun i H e hi => ⟨e _ _ h1, ?_⟩, fun H e => ⟨e _ _ h1, ?_⟩, fun i m' G' H x H' e w' hi y => ?_⟩ ⟨rfl, rfl⟩⟩
  · rw [hl]; simpa using hi
  · rw [hl]; simp
  · obtain ⟨T, k, v, e2, e3, e4, e5⟩ := y
    subst e3 e5
    obtain ⟨z, z1, z2⟩ := dsk_at h2 e2
    have g2 := Gr.new (o := .tup [kV k, v]) w' e4
    exact ⟨_, .py (.tuple [keyP k, z]), g2, by rw [List.getElem?_map, List.getElem?_map, z1]; rfl, .py (.tup upd_same (.cons (dp_key k) (.cons (dp_mono (e.trans g2.g) z2) .nil)))⟩)
/-- sorted(o), o a dict with numbers as keys -/
def insI (x : Int) : List Int → List Int
  | [] => [x]
  | y :: l => if x ≤ y then x :: y :: l else y :: insI x l
def srtI : List Int → List Int
  | [] => []
  | x :: l => insI x (srtI l)
theorem insI_perm (x : Int) : ∀ l : List Int, (insI x l).Perm (x :: l)
  | [] => .refl _
  | y :: l => by
    unfold insI
    split
    · exact .refl _
    · exact ((insI_perm x l).cons y).trans (.swap x y l)
theorem srtI_perm : ∀ l : List Int, (srtI l).Perm l
  | [] => .refl _
  | x :: l => (insI_perm x _).trans ((srtI_perm l).cons x)
theorem insI_sorted (x : Int) : ∀ {l : List Int}, l.Pairwise (· ≤ ·) → (insI x l).Pairwise (· ≤ ·)
  | [], _ => List.pairwise_singleton _ _
  | y :: l, h => by
    have h' := List.pairwise_cons.mp h
    unfold insI
    split
    · rename_i xy
      refine List.pairwise_cons.mpr ⟨fun z hz => ?_, h⟩
      rcases List.mem_cons.mp hz with rfl | hz
      · exact xy
      · exact Int.le_trans xy (h'.1 z hz)
    · rename_i xy
      refine List.pairwise_cons.mpr ⟨fun z hz => ?_, insI_sorted x h'.2⟩
      rcases List.mem_cons.mp ((insI_perm x l).mem_iff.mp hz) with rfl | hz
      · omega
      · exact h'.1 z hz
theorem srtI_sorted : ∀ l : List Int, (srtI l).Pairwise (· ≤ ·)
  | [] => .nil
  | x :: l => insI_sorted x (srtI_sorted l)
theorem sorted_one : ∀ {l k : List Int}, l.Perm k → l.Pairwise (· ≤ ·) → k.Pairwise (· ≤ ·) → l = k
  | [], k, p, _, _ => by rw [List.nil_perm.mp p]
  | x :: l, [], p, _, _ => by cases List.perm_nil.mp p
  | x :: l, y :: k, p, h1, h2 => by
    have a := List.pairwise_cons.mp h1
    have b := List.pairwise_cons.mp h2
    have xy : x = y := by
      have m1 := p.mem_iff.mp (List.mem_cons_self (a := x) (l := l))
      have m2 := p.mem_iff.mpr (List.mem_cons_self (a := y) (l := k))
      rcases List.mem_cons.mp m1 with z | z
      · exact z
      · rcases List.mem_cons.mp m2 with z2 | z2
        · exact z2.symm
        · have := a.1 _ z2
          have := b.1 _ z
          omega
    subst xy
    rw [sorted_one (List.perm_cons x |>.mp p) a.2 b.2]
theorem srt_is {ys ks : List Int} (p : ys.Perm ks) (s : ys.Pairwise (· ≤ ·)) : ys = srtI ks := sorted_one (p.trans (srtI_perm ks).symm) s (srtI_sorted ks)
theorem we_sortedD {x : Str} {ks : List Int} {l : List (Key × SD)} {P : SD → MS → Prop} (hc : X.calm = true) (ho : IsDk X o ds m l) (hk : l.map (·.1) = ks.map Sum.inl) (hz : ks.length < 64) (h : P (Ls ((srtI ks).map .int)) m) (hm : X.mg x = none) (hv : bootBuiltins x = some (.builtin "sorted")) (hg : Gl X x := by rfl) (hn : x ≠ "__name__" := by decide) (hdb : (x == ("__debug__" : Str)) = false := by decide)
    (he : starEach (o :: []) X.env = (false, eval o X.env) :: starEach [] X.env := by rfl) (hpl : (backTo pos (starEach [] X.env)).any (·.1) = false := by rfl) : WE X (.Call (.Name x p) [o] [] pos) ds m P := fun σ G H E w Q q =>
  oE (pe_callB (call_sortedDI hc) hg hm hv (pa_cons (pE o) pa_nil he) hn hdb he hpl) (ho.run E w fun a G1 H1 g1 hd => by
    obtain ⟨kvs, e1, e2⟩ := hd G1 H1 (.refl g1.wd)
    refine ⟨a, kvs, ks, rfl, e1, by rw [dsk_keys e2]; exact hk, hz, fun ys p' pm st hp => ?_⟩
    rw [srt_is pm st]
    have g2 := Gr.new (o := .lst ((srtI ks).map V.int)) g1.wd hp
    exact q _ _ _ _ _ (g1.trans g2) (.py (.lst (SqL.of upd_same) (dpa_of_ints _))) h)
end
end W9
namespace W9
open PySem PySem.Spec PyProof.Rows L2
/-! ### instances with slots, owned -/
def putD (i : Nat) (d : SD) (l : List (Option SD)) : List (Option SD) := (l ++ List.replicate (i + 1 - l.length) none).set i (some d)
section
variable {K : PySem.W.Frag} {G : Hp}
theorem dso_len : ∀ {vs : List (Option V)} {l : List (Option SD)}, DSo K G vs l → vs.length = l.length
  | _, _, .nil => rfl
  | _, _, .none a => by rw [List.length_cons, List.length_cons, dso_len a]
  | _, _, .some _ a => by rw [List.length_cons, List.length_cons, dso_len a]
theorem dso_get : ∀ {vs : List (Option V)} {l : List (Option SD)} {i : Nat} {d : SD}, DSo K G vs l → l[i]? = some (some d) → ∃ v, vs[i]? = some (some v) ∧ DS K G v d
  | _, _, _, _, .nil, e => by simp at e
  | _, _, 0, _, .none _, e => by simp at e
  | _, _, 0, _, .some h _, e => by simp at e; subst e; exact ⟨_, rfl, h⟩
  | _, _, i + 1, _, .none a, e => by
    obtain ⟨v, h1, h2⟩ := dso_get (i := i) a (by simpa using e)
    exact ⟨v, by simpa using h1, h2⟩
  | _, _, i + 1, _, .some _ a, e => by
    obtain ⟨v, h1, h2⟩ := dso_get (i := i) a (by simpa using e)
    exact ⟨v, by simpa using h1, h2⟩
theorem dso_app : ∀ {vs us : List (Option V)} {l r : List (Option SD)}, DSo K G vs l → DSo K G us r → DSo K G (vs ++ us) (l ++ r)
  | _, _, _, _, .nil, b => b
  | _, _, _, _, .none a, b => .none (dso_app a b)
  | _, _, _, _, .some h a, b => .some h (dso_app a b)
theorem dso_rep : ∀ n : Nat, DSo K G (List.replicate n none) (List.replicate n none)
  | 0 => .nil
  | n + 1 => .none (dso_rep n)
theorem dso_set {v : V} {d : SD} (r : DS K G v d) : ∀ {vs : List (Option V)} {l : List (Option SD)} (i : Nat), DSo K G vs l → DSo K G (vs.set i (some v)) (l.set i (some d))
  | _, _, _, .nil => .nil
  | _, _, 0, .none a => .some r a
  | _, _, 0, .some _ a => .some r a
  | _, _, i + 1, .none a => .none (dso_set r i a)
  | _, _, i + 1, .some h a => .some h (dso_set r i a)
theorem dso_put {v : V} {d : SD} (r : DS K G v d) {vs : List (Option V)} {l : List (Option SD)} (i : Nat) (h : DSo K G vs l) : DSo K G (SlX.putS i v vs) (putD i d l) := by
  unfold SlX.putS putD
  rw [dso_len h]
  exact dso_set r i (dso_app h (dso_rep _))
theorem own_ins {H : Hp} {m : MS} {a C dx : Addr} {l : List (Option SD)} (w : Wd K m G H) (h : (a, OV.ins a C dx l) ∈ m) : ∃ vs, H a = some (SlX.SlO a C dx vs) ∧ DSo K G vs l := by
  obtain ⟨_, o, h1, vs, h2, h3⟩ := w.own _ h
  subst h2
  exact ⟨vs, h1, h3⟩
theorem own_ho {H : Hp} {m : MS} {a : Addr} {o : HO} (w : Wd K m G H) (h : (a, OV.ho o) ∈ m) : H a = some o := by
  obtain ⟨_, u, h1, h2, _⟩ := w.own _ h
  subst h2
  exact h1
end
theorem upd_self {H : Hp} {a : Addr} {o : HO} (h : H a = some o) : upd H a o = H := by
  funext b
  by_cases e : b = a
  · rw [e, upd_same, h]
  · rw [upd_ne e]
theorem mset_hd {m : MS} {p : Addr} {v u : OV} (h : p ∉ ad m) : mset ((p, v) :: m) p u = (p, u) :: m := by
  unfold mset
  rw [List.map_cons, if_pos rfl]
  congr 1
  refine (List.map_congr_left fun q hq => ?_).trans (List.map_id _)
  rw [if_neg fun z => h (List.mem_map.mpr ⟨q, hq, z⟩)]
  rfl
section
variable {X : Cx} {ds : DE} {m : MS} {e o : Expr} {pos : Pos} {f : Str} {a C dx p : Addr} {l : List (Option SD)} {i : Nat}
theorem we_sl {P : SD → MS → Prop} {d : SD} (he : EE X e ds (.raw (.ref a))) (hm : (a, OV.ins a C dx l) ∈ m) (hd : (dx, OV.ho (.xd [])) ∈ m) (c : SlX.SCls X.K C) (t : SlX.Slot1 X.K C f p i) (hl : l[i]? = some (some d)) (h : P d m)
    (hb : attributeBase e f X.env (eval e X.env) = eval e X.env := by rfl) : WE X (.Attribute e f pos) ds m P := fun σ G H E w Q q => oE (SlX.pe_sl (pE e) hb) (he m σ G H E w _ fun v d' m1 G1 H1 g1 r1 ⟨e1, e2⟩ => by
  subst e1 e2
  cases ds_raw r1
  obtain ⟨vs, h1, h2⟩ := own_ins g1.wd hm
  obtain ⟨v, h3, h4⟩ := dso_get h2 hl
  exact ⟨a, C, dx, p, vs, i, v, rfl, .inr ⟨h1, own_ho g1.wd hd⟩, c, t, h3, q v d _ G1 H1 g1 h4 h⟩)
/-- o.f as a target -/
def gSl (K : PySem.W.Frag) (ta : TE) (f : Str) : TG := fun y σ H Q => ta σ H fun x H2 => ∃ a C dx p vs i, x = .ref a ∧ SlX.Slt H2 a C dx vs ∧ SlX.SCls K C ∧ SlX.Slot1 K C f p i ∧ Q σ (SlX.slH H2 a C dx (SlX.putS i y vs))
theorem pg_sl {ta : TE} (ha : PE X o ta) : PG X (.Attribute o f pos) (gSl X.K ta f) := by
  refine ⟨fun pins s σ H v u Q I r h => ?_⟩
  refine PySem.W.kas_attr (thn (ha.run pins s σ H _ I h) fun ov s1 ⟨x, H1, I1, rx, a, C, dx, p, vs, i, ex, hs, c, t, q⟩ => ?_)
  subst ex
  obtain rfl : ov = Value.ref a := rx
  exact SlX.setslot_ok I1 hs c t r fun s2 I2 => ⟨σ, _, I2, q⟩
theorem wg_sl {d : SD} {P : DE → MS → Prop} (ho : EE X o ds (.raw (.ref a))) (c : SlX.SCls X.K C) (t : SlX.Slot1 X.K C f p i) (h : P ds ((a, .ins a C dx (putD i d l)) :: (dx, .ho (.xd [])) :: m)) :
    WG X (.Attribute o f pos) [] d ds ((a, .ins a C dx l) :: (dx, .ho (.xd [])) :: m) P := fun σ G H y E w ry Q q => oG (pg_sl (pE o)) (ho _ σ G H E w _ fun v d' m1 G1 H1 g1 r1 ⟨e1, e2⟩ => by
  subst e1 e2
  cases ds_raw r1
  obtain ⟨vs, h1, h2⟩ := own_ins g1.wd List.mem_cons_self
  have h3 := own_ho g1.wd (List.mem_cons_of_mem _ List.mem_cons_self)
  refine ⟨a, C, dx, p, vs, i, rfl, .inr ⟨h1, h3⟩, c, t, ?_⟩
  have g2 := Gr.set (o := SlX.SlO a C dx (SlX.putS i y vs)) (v := .ins a C dx (putD i d l)) g1.wd List.mem_cons_self ⟨_, rfl, dso_put (ds_mono g1.g ry) i h2⟩
  have nd := g1.wd.nd
  unfold ad at nd
  rw [List.map_cons, List.nodup_cons] at nd
  rw [mset_hd nd.1] at g2
  unfold SlX.slH
  rw [upd_self h3]
  exact q _ _ _ _ _ (g1.trans g2) (E.mono (g1.trans g2).g) ⟨fun _ _ => rfl, rfl⟩ h)
/-- the first one -/
theorem wg_sl0 {d : SD} {P : DE → MS → Prop} (ho : EE X o ds (.raw (.ref a))) (c : SlX.SCls X.K C) (t : SlX.Slot1 X.K C f p i) (h : P ds ((a, .ins a C dx (putD i d [])) :: (dx, .ho (.xd [])) :: m)) :
    WG X (.Attribute o f pos) [] d ds ((a, .ho (.ins C dx [])) :: (dx, .ho (.own a)) :: m) P := fun σ G H y E w ry Q q => oG (pg_sl (pE o)) (ho _ σ G H E w _ fun v d' m1 G1 H1 g1 r1 ⟨e1, e2⟩ => by
  subst e1 e2
  cases ds_raw r1
  have h1 := own_ho g1.wd List.mem_cons_self
  have hd : (dx, OV.ho (.own a)) ∈ (a, OV.ho (.ins C dx [])) :: (dx, .ho (.own a)) :: m := List.mem_cons_of_mem _ List.mem_cons_self
  refine ⟨a, C, dx, p, [], i, rfl, .inl ⟨h1, rfl⟩, c, t, ?_⟩
  have nd := g1.wd.nd
  unfold ad at nd
  rw [List.map_cons, List.nodup_cons, List.map_cons, List.nodup_cons] at nd
  have ne : a ≠ dx := fun z => nd.1 (by rw [z]; exact List.mem_cons_self)
  have g2 := Gr.set (o := .xd []) (v := .ho (.xd [])) g1.wd hd ⟨rfl, fun _ z => nomatch z⟩
  have e2 : mset ((a, OV.ho (.ins C dx [])) :: (dx, .ho (.own a)) :: m) dx (.ho (.xd [])) = (a, OV.ho (.ins C dx [])) :: (dx, .ho (.xd [])) :: m := by
    unfold mset
    rw [List.map_cons, if_neg ne]
    congr 1
    exact mset_hd nd.2.1
  rw [e2] at g2
  have g3 := Gr.set (o := SlX.SlO a C dx (SlX.putS i y [])) (v := .ins a C dx (putD i d [])) g2.wd List.mem_cons_self ⟨_, rfl, dso_put (ds_mono g1.g ry) i .nil⟩
  rw [mset_hd (m := (dx, OV.ho (.xd [])) :: m) nd.1] at g3
  exact q _ _ _ _ _ ((g1.trans g2).trans g3) (E.mono ((g1.trans g2).trans g3).g) ⟨fun _ _ => rfl, rfl⟩ h)
end
/-! ### reading what is owned: all at once, as if it were known -/
def sealAll (m : MS) (G H : Hp) : Hp := fun b => if b ∈ ad m then H b else G b
def cutAll (m : MS) (G : Hp) : Hp := fun b => if b ∈ ad m then none else G b
section
variable {K : PySem.W.Frag} {m m' : MS} {G H G' H' : Hp}
theorem seal_in {b : Addr} (h : b ∈ ad m) : sealAll m G H b = H b := if_pos h
theorem seal_out {b : Addr} (h : b ∉ ad m) : sealAll m G H b = G b := if_neg h
theorem cut_in {b : Addr} (h : b ∈ ad m) : cutAll m G b = none := if_pos h
theorem cut_out {b : Addr} (h : b ∉ ad m) : cutAll m G b = G b := if_neg h
theorem Wd.outs (w : Wd K m G H) {b : Addr} {o : HO} (e : G b = some o) : b ∉ ad m := fun z => by
  obtain ⟨u, hu⟩ := of_ad z
  have q := (w.own _ hu).1
  have q : G b = none := q
  rw [e] at q; cases q
theorem Wd.exSeal (w : Wd K m G H) : Ex G (sealAll m G H) := fun b o e => by rw [seal_out (w.outs e)]; exact e
theorem Wd.seal0 (w : Wd K m G H) : Wd K [] (sealAll m G H) H := by
  refine ⟨fun b o e => ?_, fun q hq => (nomatch hq), List.nodup_nil⟩
  by_cases z : b ∈ ad m
  · rw [seal_in z] at e; exact e
  · rw [seal_out z] at e; exact w.w _ _ e
theorem Gr.view0 (w : Wd K m G H) (g : Gr K [] [] (sealAll m G H) H G' H') : Gr K m m G H (cutAll m G') H' := by
  have ex : Ex G (cutAll m G') := fun b o e => by rw [cut_out (w.outs e)]; exact g.g _ _ (w.exSeal _ _ e)
  have keep : ∀ a u, H a = some u → H' a = some u := fun a u e => g.h a u (fun z => nomatch z) e
  refine ⟨ex, fun a u _ e => keep a u e, g.th, fun b hb e f nt => ?_, fun q hq => .inl (mem_ad hq), ⟨fun b u e => ?_, fun q hq => ?_, w.nd⟩⟩
  · rw [cut_out hb]
    exact g.fr b (fun z => nomatch z) (by rw [seal_out hb]; exact e) f nt
  · have nb : b ∉ ad m := fun z => by rw [cut_in z] at e; cases e
    rw [cut_out nb] at e
    exact g.wd.w _ _ e
  · obtain ⟨h1, u, h2, h3⟩ := w.own q hq
    exact ⟨cut_in (mem_ad hq), u, keep _ _ h2, ov_mono ex h3⟩
end
/-- neither lists nor dicts -/
def lfD : PyData → Bool
  | .list _ => false
  | .dict _ => false
  | .tuple l => lfAll l
  | _ => true
where lfAll : List PyData → Bool
  | [] => true
  | d :: l => lfD d && lfAll l
mutual
theorem dp_cutT {K : PySem.W.Frag} {G G' : Hp} (h : ∀ b xs, G b = some (.tup xs) → G' b = some (.tup xs)) : ∀ {v : V} {d : PyData}, lfD d = true → Dp K G v d → Dp K G' v d
  | _, _, _, .non => .non
  | _, _, _, .bl b => .bl b
  | _, _, _, .int i => .int i
  | _, _, _, .str x => .str x
  | _, _, n, .lst _ _ => by unfold lfD at n; cases n
  | _, _, n, .tup h1 a => .tup (h _ _ h1) (dpa_cutT h (by unfold lfD at n; exact n) a)
  | _, _, n, .dct _ _ => by unfold lfD at n; cases n
theorem dpa_cutT {K : PySem.W.Frag} {G G' : Hp} (h : ∀ b xs, G b = some (.tup xs) → G' b = some (.tup xs)) : ∀ {vs : List V} {l : List PyData}, lfD.lfAll l = true → DpAll K G vs l → DpAll K G' vs l
  | _, _, _, .nil => .nil
  | _, _, n, .cons a b => by
    unfold lfD.lfAll at n
    rw [Bool.and_eq_true] at n
    exact .cons (dp_cutT h n.1 a) (dpa_cutT h n.2 b)
end
theorem tup_cut {K : PySem.W.Frag} {m : MS} {G H G' H' : Hp} (w : Wd K m G H) (g : Gr K [] [] (sealAll m G H) H G' H') : ∀ b xs, G' b = some (.tup xs) → cutAll m G' b = some (.tup xs) := fun b xs e => by
  refine (cut_out fun z => ?_).trans e
  obtain ⟨u, hu⟩ := of_ad z
  obtain ⟨_, o, h2, h3⟩ := w.own _ hu
  have q := g.h _ _ (fun z => nomatch z) h2
  have q2 := g.wd.w _ _ e
  have q : H' b = some o := q
  rw [q2] at q
  cases q
  exact ov_nt h3 _ rfl
section
variable {X : Cx} {ds dsV : DE} {m : MS} {e o : Expr} {pos : Pos}
/-- the slots dsV tell of ds with what is owned -/
def Vw (X : Cx) (m : MS) (ds dsV : DE) : Prop := ∀ σ G H, Wd X.K m G H → EnvD X.K G σ ds → EnvD X.K (sealAll m G H) σ dsV
theorem vw_refl : Vw X m ds ds := fun σ G H w E => E.mono w.exSeal
theorem seal_lst {K : PySem.W.Frag} {G H : Hp} {p : Addr} {l : List PyData} (w : Wd K m G H) (hm : (p, OV.dl l) ∈ m) : DS K (sealAll m G H) (.ref p) (Ls l) := by
  obtain ⟨vs, h1, h2⟩ := own_get w hm
  exact .py (.lst (SqL.of (by rw [seal_in (mem_ad hm)]; exact h1)) (dpa_mono w.exSeal h2))
/-- an instance as it stands -/
def FI (K : PySem.W.Frag) (C : Addr) (l : List (Option SD)) : SD := .ob fun v G => ∃ a dx vs, v = .ref a ∧ G a = some (SlX.SlO a C dx vs) ∧ G dx = some (.xd []) ∧ DSo K G vs l
theorem fi_mk {K : PySem.W.Frag} {G : Hp} {a C dx : Addr} {vs : List (Option V)} {l : List (Option SD)} (h1 : G a = some (SlX.SlO a C dx vs)) (h2 : G dx = some (.xd [])) (h3 : DSo K G vs l) : DS K G (.ref a) (FI K C l) :=
  .ob ⟨a, dx, vs, rfl, h1, h2, h3⟩ fun G' e => ⟨a, dx, vs, rfl, e _ _ h1, e _ _ h2, dso_mono e h3⟩
theorem ee_fi {C p : Addr} {f : Str} {l : List (Option SD)} {i : Nat} {d : SD} (c : SlX.SCls X.K C) (he : EE X e ds (FI X.K C l)) (t : SlX.Slot1 X.K C f p i) (hl : l[i]? = some (some d))
    (hb : attributeBase e f X.env (eval e X.env) = eval e X.env := by rfl) : EE X (.Attribute e f pos) ds d := fun m σ G H E w Q q => oE (SlX.pe_sl (pE e) hb) (he m σ G H E w _ fun v d' m1 G1 H1 g1 r1 ⟨e1, e2⟩ => by
  subst e1 e2
  obtain ⟨a, dx, vs, rfl, h1, h2, h3⟩ := ds_ob r1
  obtain ⟨v, h4, h5⟩ := dso_get h3 hl
  exact ⟨a, C, dx, p, vs, i, v, rfl, .inr ⟨g1.wd.w _ _ h1, g1.wd.w _ _ h2⟩, c, t, h4, q v d _ G1 H1 g1 h5 ⟨rfl, rfl⟩⟩)
/-- what a slot holds, told by what is owned -/
inductive SlV (m : MS) : List (Option SD) → List (Option SD) → Prop
  | nil : SlV m [] []
  | same {d : Option SD} {l k : List (Option SD)} : SlV m l k → SlV m (d :: l) (d :: k)
  | lst {p : Addr} {x : List PyData} {l k : List (Option SD)} : (p, OV.dl x) ∈ m → SlV m l k → SlV m (some (.raw (.ref p)) :: l) (some (Ls x) :: k)
theorem slv_ds {K : PySem.W.Frag} {G H : Hp} (w : Wd K m G H) : ∀ {l k : List (Option SD)} {vs : List (Option V)}, SlV m l k → DSo K G vs l → DSo K (sealAll m G H) vs k
  | _, _, _, .nil, .nil => .nil
  | _, _, _, .same s, .none a => .none (slv_ds w s a)
  | _, _, _, .same s, .some h a => .some (ds_mono w.exSeal h) (slv_ds w s a)
  | _, _, _, .lst hm s, .some h a => by
    cases ds_raw h
    exact .some (seal_lst w hm) (slv_ds w s a)
theorem vw_ins {i : Nat} {a C dx : Addr} {l k : List (Option SD)} (h : Vw X m ds dsV) (hd : dsV[i]? = some (some (.raw (.ref a)))) (hm : (a, OV.ins a C dx l) ∈ m) (hx : (dx, OV.ho (.xd [])) ∈ m) (hs : SlV m l k) : Vw X m ds (dsV.set i (some (FI X.K C k))) := fun σ G H w E => by
  obtain ⟨v, hv, hr⟩ := (h σ G H w E).2 i _ hd
  cases ds_raw hr
  obtain ⟨vs, h1, h2⟩ := own_ins w hm
  exact (h σ G H w E).retype hv (fi_mk (by rw [seal_in (mem_ad hm)]; exact h1) (by rw [seal_in (mem_ad hx)]; exact own_ho w hx) (slv_ds w hs h2))
theorem we_vw {d : PyData} {P : SD → MS → Prop} (hv : Vw X m ds dsV) (h : EE X e dsV (.py d)) (k : P (.py d) m) (hl : lfD d = true := by rfl) : WE X e ds m P := fun σ G H E w Q q =>
  h [] σ (sealAll m G H) H (hv σ G H w E) w.seal0 Q fun v d' m' G' H' g r ⟨e1, e2⟩ => by
    subst e1 e2
    refine q v _ m _ H' (Gr.view0 w g) ?_ k
    cases r with
    | py r => exact .py (dp_cutT (tup_cut w g) hl r)
end
end W9
namespace W9
open PySem PySem.Spec PyProof.Rows L2
/-! ### an instance at the head, as if it were known, what it leads to owned still -/
def DLike (o : HO) : Prop := (∃ xs, o = .tup xs) ∨ (∃ xs, o = .lst xs) ∨ ∃ b x, o = .frz b x
section
variable {K : PySem.W.Frag} {G G' : Hp}
theorem rd_cut (h : ∀ b o, G b = some o → DLike o → G' b = some o) {a : Addr} {xs : List V} (r : Rd G a (.lst xs)) : Rd G' a (.lst xs) := by
  rcases r with r | ⟨o, r⟩
  · exact .inl (h _ _ r (.inr (.inl ⟨_, rfl⟩)))
  · exact .inr ⟨o, h _ _ r (.inr (.inr ⟨_, _, rfl⟩))⟩
mutual
theorem dp_cut (h : ∀ b o, G b = some o → DLike o → G' b = some o) : ∀ {v : V} {d : PyData}, Dp K G v d → Dp K G' v d
  | _, _, .non => .non
  | _, _, .bl b => .bl b
  | _, _, .int i => .int i
  | _, _, .str x => .str x
  | _, _, .lst r a => .lst (r.elim (fun r => .inl (rd_cut h r)) .inr) (dpa_cut h a)
  | _, _, .tup r a => .tup (h _ _ r (.inl ⟨_, rfl⟩)) (dpa_cut h a)
  | _, _, .dct r a => .dct (h _ _ r (.inr (.inr ⟨_, _, rfl⟩))) (dpk_cut h a)
theorem dpa_cut (h : ∀ b o, G b = some o → DLike o → G' b = some o) : ∀ {vs : List V} {ds : List PyData}, DpAll K G vs ds → DpAll K G' vs ds
  | _, _, .nil => .nil
  | _, _, .cons r a => .cons (dp_cut h r) (dpa_cut h a)
theorem dpk_cut (h : ∀ b o, G b = some o → DLike o → G' b = some o) : ∀ {vs : List (Key × V)} {ds : List (PyData × PyData)}, DpKv K G vs ds → DpKv K G' vs ds
  | _, _, .nil => .nil
  | _, _, .consI i r a => .consI i (dp_cut h r) (dpk_cut h a)
  | _, _, .consS x r a => .consS x (dp_cut h r) (dpk_cut h a)
end
end
/-- no semantic slots within -/
def plD : SD → Prop
  | .ob _ => False
  | _ => True
def plO : OV → Prop
  | .dl _ => True
  | .ho _ => True
  | .ds l => ∀ q ∈ l, plD q.2
  | _ => False
def plM : MS → Prop
  | [] => True
  | p :: m => plO p.2 ∧ plM m
theorem plM_mem : ∀ {m : MS} {p : Addr × OV}, plM m → p ∈ m → plO p.2
  | q :: m, p, h, hp => by
    rcases List.mem_cons.mp hp with rfl | hp
    · exact h.1
    · exact plM_mem h.2 hp
theorem plO_py {l : List (Key × PyData)} : plO (.ds (pyK l)) := fun q hq => by
  obtain ⟨r, _, rfl⟩ := List.mem_map.mp hq
  exact True.intro
section
variable {K : PySem.W.Frag} {G G' : Hp}
theorem ds_cut (h : ∀ b o, G b = some o → DLike o → G' b = some o) {v : V} {d : SD} (p : plD d) (r : DS K G v d) : DS K G' v d := by
  cases r with
  | raw => exact .raw _
  | py r => exact .py (dp_cut h r)
  | ob => exact False.elim p
theorem dsk_cut (h : ∀ b o, G b = some o → DLike o → G' b = some o) {kvs : List (Key × V)} {l : List (Key × SD)} (p : ∀ q ∈ l, plD q.2) (r : DSk K G kvs l) : DSk K G' kvs l := by
  induction r with
  | nil => exact .nil
  | cons k r a ih => exact .cons k (ds_cut h (p _ List.mem_cons_self) r) (ih fun q hq => p q (List.mem_cons_of_mem _ hq))
theorem ov_cut (h : ∀ b o, G b = some o → DLike o → G' b = some o) : ∀ {v : OV} {o : HO}, plO v → OVok K G v o → OVok K G' v o
  | .ho _, _, _, r => r
  | .dl _, _, _, ⟨vs, h1, h2⟩ => ⟨vs, h1, dpa_cut h h2⟩
  | .ds _, _, p, ⟨kvs, h1, h2⟩ => ⟨kvs, h1, dsk_cut h p h2⟩
  | .tab _, _, p, _ => p.elim
  | .sl _, _, p, _ => p.elim
  | .ins _ _ _ _, _, p, _ => p.elim
variable {m0 m m' : MS} {H H' : Hp}
theorem Wd.left (w : Wd K (m0 ++ m) G H) : Wd K m0 G H := ⟨w.w, fun p hp => w.own p (List.mem_append_left _ hp), by
  have nd := w.nd
  unfold ad at nd ⊢
  rw [List.map_append, List.nodup_append] at nd
  exact nd.1⟩
theorem ad_app : ad (m0 ++ m) = ad m0 ++ ad m := by unfold ad; rw [List.map_append]
theorem Wd.apart (w : Wd K (m0 ++ m) G H) {b : Addr} (h1 : b ∈ ad m0) (h2 : b ∈ ad m) : False := by
  have nd := w.nd
  rw [ad_app, List.nodup_append] at nd
  exact nd.2.2 b h1 b h2 rfl
theorem Wd.part (w : Wd K (m0 ++ m) G H) : Wd K m (sealAll m0 G H) H := by
  refine ⟨fun b o e => ?_, fun q hq => ?_, w.sub.nd⟩
  · by_cases z : b ∈ ad m0
    · rw [seal_in z] at e; exact e
    · rw [seal_out z] at e; exact w.w _ _ e
  · obtain ⟨h1, u, h2, h3⟩ := w.sub.own q hq
    exact ⟨by rw [seal_out fun z => w.apart z (mem_ad hq)]; exact h1, u, h2, ov_mono w.left.exSeal h3⟩
/-- what is cut out again is no data -/
theorem cut_data (w : Wd K (m0 ++ m) G H) (g : Gr K m m' (sealAll m0 G H) H G' H') (nd : ∀ p ∈ m0, ∀ o, H p.1 = some o → ¬ DLike o) : ∀ b o, G' b = some o → DLike o → cutAll m0 G' b = some o := fun b o e hd => by
  refine (cut_out fun z => ?_).trans e
  obtain ⟨u, hu⟩ := of_ad z
  obtain ⟨_, o', h2, _⟩ := w.left.own _ hu
  have q := g.h _ _ (fun z' => w.apart z z') h2
  have q2 := g.wd.w _ _ e
  have q : H' b = some o' := q
  rw [q2] at q
  cases q
  exact nd _ hu _ h2 hd
theorem Gr.viewN (w : Wd K (m0 ++ m) G H) (g : Gr K m m' (sealAll m0 G H) H G' H') (nd : ∀ p ∈ m0, ∀ o, H p.1 = some o → ¬ DLike o) (pl : plM m') : Gr K (m0 ++ m) (m0 ++ m') G H (cutAll m0 G') H' := by
  have exS := w.left.exSeal
  have ex : Ex G (cutAll m0 G') := fun b o e => by rw [cut_out (w.left.outs e)]; exact g.g _ _ (exS _ _ e)
  have keep0 : ∀ p ∈ m0, ∀ u, H p.1 = some u → H' p.1 = some u := fun p hp u e => g.h _ u (fun z => w.apart (mem_ad hp) z) e
  refine ⟨ex, fun b u hb e => g.h b u (fun z => hb (by rw [ad_app]; exact List.mem_append_right _ z)) e, g.th, fun b hb e f nt => ?_, fun q hq => ?_, ⟨fun b u e => ?_, fun q hq => ?_, ?_⟩⟩
  · have n0 : b ∉ ad m0 := fun z => hb (by rw [ad_app]; exact List.mem_append_left _ z)
    rw [cut_out n0]
    exact g.fr b (fun z => hb (by rw [ad_app]; exact List.mem_append_right _ z)) (by rw [seal_out n0]; exact e) f nt
  · rcases List.mem_append.mp hq with hq | hq
    · exact .inl (by rw [ad_app]; exact List.mem_append_left _ (mem_ad hq))
    · exact (g.nw q hq).imp (fun z => by rw [ad_app]; exact List.mem_append_right _ z) id
  · have nb : b ∉ ad m0 := fun z => by rw [cut_in z] at e; cases e
    rw [cut_out nb] at e
    exact g.wd.w _ _ e
  · rcases List.mem_append.mp hq with hq | hq
    · obtain ⟨h1, u, h2, h3⟩ := w.left.own q hq
      exact ⟨cut_in (mem_ad hq), u, keep0 q hq _ h2, ov_mono ex h3⟩
    · obtain ⟨h1, u, h2, h3⟩ := g.wd.own q hq
      refine ⟨?_, u, h2, ov_cut (cut_data w g nd) (plM_mem pl hq) h3⟩
      by_cases z : q.1 ∈ ad m0
      · exact cut_in z
      · rw [cut_out z]; exact h1
  · rw [ad_app, List.nodup_append]
    refine ⟨w.left.nd, g.wd.nd, fun x hx y hy z => ?_⟩
    subst z
    obtain ⟨v, hv⟩ := of_ad hy
    rcases g.nw _ hv with q | q
    · exact w.apart hx q
    · obtain ⟨v2, hv2⟩ := of_ad hx
      obtain ⟨_, u, h2, _⟩ := w.left.own _ hv2
      have h2 : H x = some u := h2
      have q : H x = none := q
      rw [q] at h2; cases h2
end
theorem ins_nd {K : PySem.W.Frag} {G H : Hp} {m : MS} {a C dx : Addr} {l : List (Option SD)} (w : Wd K ((a, OV.ins a C dx l) :: (dx, .ho (.xd [])) :: m) G H) : ∀ p ∈ [(a, OV.ins a C dx l), (dx, .ho (.xd []))], ∀ o, H p.1 = some o → ¬ DLike o := fun p hp o e hd => by
  rcases List.mem_cons.mp hp with rfl | hp
  · obtain ⟨vs, h1, _⟩ := own_ins w List.mem_cons_self
    have e : H a = some o := e
    rw [h1] at e
    cases e
    rcases hd with ⟨_, z⟩ | ⟨_, z⟩ | ⟨_, _, z⟩ <;> (unfold SlX.SlO at z; cases z)
  · rcases List.mem_cons.mp hp with rfl | hp
    · have h1 := own_ho w (List.mem_cons_of_mem _ List.mem_cons_self)
      have e : H dx = some o := e
      rw [h1] at e
      cases e
      rcases hd with ⟨_, z⟩ | ⟨_, z⟩ | ⟨_, _, z⟩ <;> cases z
    · cases hp
section
variable {X : Cx} {ds : DE} {m : MS} {e o : Expr} {pos : Pos} {i : Nat} {a C dx : Addr} {l : List (Option SD)}
abbrev InsM (a C dx : Addr) (l : List (Option SD)) (m : MS) : MS := (a, OV.ins a C dx l) :: (dx, .ho (.xd [])) :: m
theorem vi_env {σ : L2.St} {G H : Hp} (hd : ds[i]? = some (some (.raw (.ref a)))) (E : EnvD X.K G σ ds) (w : Wd X.K (InsM a C dx l m) G H) : EnvD X.K (sealAll [(a, OV.ins a C dx l), (dx, .ho (.xd []))] G H) σ (ds.set i (some (FI X.K C l))) := by
  have w0 : Wd X.K ([(a, OV.ins a C dx l), (dx, .ho (.xd []))] ++ m) G H := w
  have exS := w0.left.exSeal
  obtain ⟨v, hv, hr⟩ := E.2 i _ hd
  cases ds_raw hr
  obtain ⟨vs, h1, h2⟩ := own_ins w List.mem_cons_self
  have h3 := own_ho w (List.mem_cons_of_mem _ List.mem_cons_self)
  exact (E.mono exS).retype hv (fi_mk (by rw [seal_in List.mem_cons_self]; exact h1) (by rw [seal_in (List.mem_cons_of_mem _ List.mem_cons_self)]; exact h3) (dso_mono exS h2))
theorem we_vi {P : SD → MS → Prop} (hd : ds[i]? = some (some (.raw (.ref a)))) (h : WE X e (ds.set i (some (FI X.K C l))) m fun d mV => plD d ∧ plM mV ∧ P d (InsM a C dx l mV)) : WE X e ds (InsM a C dx l m) P := fun σ G H E w Q q => by
  have w0 : Wd X.K ([(a, OV.ins a C dx l), (dx, .ho (.xd []))] ++ m) G H := w
  refine h σ _ H (vi_env hd E w) w0.part Q fun v d mV G' H' g r ⟨p1, p2, p3⟩ => ?_
  exact q v d _ _ H' (Gr.viewN w0 g (ins_nd w) p2) (ds_cut (cut_data w0 g (ins_nd w)) p1 r) p3
theorem wt_vi {P : Bool → MS → Prop} (hd : ds[i]? = some (some (.raw (.ref a)))) (h : WT X e (ds.set i (some (FI X.K C l))) m fun d mV => plM mV ∧ P d (InsM a C dx l mV)) : WT X e ds (InsM a C dx l m) P := fun σ G H E w Q q => by
  have w0 : Wd X.K ([(a, OV.ins a C dx l), (dx, .ho (.xd []))] ++ m) G H := w
  refine h σ _ H (vi_env hd E w) w0.part Q fun v mV G' H' g ⟨p2, p3⟩ => ?_
  exact q v _ _ H' (Gr.viewN w0 g (ins_nd w) p2) p3
end
/-! ### stores: the thing and the place are told by what is owned -/
section
variable {X : Cx} {ds : DE} {m : MS} {e o i : Expr} {pos tpos : Pos} {p : Addr} {E : ED}
theorem ws_storeW (h : WE X e ds m fun d m1 => ∃ d', d = .py d' ∧ WE X o ds m1 fun x m2 => x = .raw (.ref p) ∧ WE X i ds m2 fun y m3 => ∃ (j : Int) (l : List PyData), y = I j ∧ (p, OV.dl l) ∈ m3 ∧ 0 ≤ j ∧ j < l.length ∧ E.nx ds (mset m3 p (.dl (l.set j.toNat d'))))
    (ha : ∀ v, assign (.Subscript o i tpos) X.env v = (do
      let ov ← holding [v] (eval o X.env)
      let iv ← holding [v, ov] (eval i X.env)
      standAt tpos
      holding [v, ov, iv] (setItem ov iv v)
      release [v, ov, iv] []) := by intro _; rfl) (hs : swapsWithSole [.Subscript o i tpos] e pos.line X.env = pure false := by rfl) (hw : swappedStores [.Subscript o i tpos] e X.env = pure none := by rfl)
    (h1 : (assignEach [.Subscript o i tpos] X.env).map (·.2) = [assign (.Subscript o i tpos) X.env] := by rfl) : WS X (.Assign [.Subscript o i tpos] e pos) ds m E := fun σ G H e0 w D k =>
  oS (ps_asg (pE e) (pg_sub (pE o) (pE i) set_list ha) hs hw h1) (h σ G H e0 w _ fun v d m1 G1 H1 g1 r1 ⟨d', e1, p1⟩ => by
    subst e1
    refine p1 σ G1 H1 (e0.mono g1.g) g1.wd _ fun ov od m2 G2 H2 g2 r2 ⟨e1, p2⟩ => ?_
    subst e1
    refine p2 σ G2 H2 (e0.mono (g1.trans g2).g) g2.wd _ fun iv id m3 G3 H3 g3 r3 ⟨j, l, e1, hm, h0, hj, p3⟩ => ?_
    subst e1
    cases ds_raw r2
    cases ds_int r3
    obtain ⟨vs, h1, h2⟩ := own_get g3.wd hm
    have hl := dpa_length h2
    have hjn : ixN vs.length j = some j.toNat := by
      unfold ixN
      rw [if_pos h0, if_pos (by omega)]
    refine ⟨p, vs, j, j.toNat, rfl, rfl, h1, hjn, ?_⟩
    have r4 : Dp X.K G3 v d' := by
      cases ds_mono (g2.trans g3).g r1 with
      | py z => exact z
    have g4 := Gr.set (o := .lst (vs.set j.toNat v)) (v := .dl (l.set j.toNat d')) g3.wd hm ⟨_, rfl, dpa_set r4 _ h2⟩
    exact k.nx _ _ _ _ _ (((g1.trans g2).trans g3).trans g4) (e0.mono (((g1.trans g2).trans g3).trans g4).g) p3)
theorem ws_putDW (hu : X.A.units + 1 < cLine) (h : WE X e ds m fun d m1 => WE X o ds m1 fun x m2 => x = .raw (.ref p) ∧ WE X i ds m2 fun y m3 => ∃ k l, y = .py (keyP k) ∧ (p, OV.ds l) ∈ m3 ∧ l.length < 1000000 ∧ E.nx ds (mset m3 p (.ds (setK l k d))))
    (hs : swapsWith e (some (.Subscript o i tpos)) pos.line X.env = pure false := by rfl) : WS X (.Assign [.Subscript o i tpos] e pos) ds m E := fun σ G H e0 w D kk => oS (ps_dput hu (pE o) (pE i) (pE e) hs) (by
  refine h σ G H e0 w _ fun v d m1 G1 H1 g1 r1 p1 => ?_
  refine p1 σ G1 H1 (e0.mono g1.g) g1.wd _ fun v2 d2 m2 G2 H2 g2 r2 ⟨e1, p2⟩ => ?_
  subst e1
  cases ds_raw r2
  refine p2 σ G2 H2 (e0.mono (g1.trans g2).g) g2.wd _ fun v3 d3 m3 G3 H3 g3 r3 ⟨k, l, e1, hm, hl, p3⟩ => ?_
  subst e1
  obtain ⟨kvs, e1, e2⟩ := own_ds g3.wd hm
  cases key_v r3
  refine ⟨p, _, rfl, DPut.k (k := k) e1 (by rw [dsk_len e2]; have := sizeLine_eq; omega), ?_⟩
  have g4 := Gr.set (o := .dK (putK kvs k v)) (v := .ds (setK l k d)) g3.wd hm ⟨_, rfl, dsk_put e2 (ds_mono (g2.trans g3).g r1)⟩
  exact kk.nx _ _ _ _ _ (((g1.trans g2).trans g3).trans g4) (e0.mono ((g1.trans g2).trans g3).g) p3)
/-- what is owned lies at places of its own -/
theorem wss_nd {sts : List Stmt} (h : (ad m).Nodup → WSs X sts ds m E) : WSs X sts ds m E := fun σ G H e0 w D k => h w.nd σ G H e0 w D k
theorem xss_nd {sts : List Stmt} {R : RX} (h : (ad m).Nodup → XSs X sts ds m E R) : XSs X sts ds m E R := fun W tk σ G H e0 w x D k => h w.nd W tk σ G H e0 w x D k
end
/-! ### a tuple of whatever -/
def TpS (K : PySem.W.Frag) (xs : List SD) : SD := .ob fun v G => ∃ a vs, v = .ref a ∧ G a = some (.tup vs) ∧ DSs K G vs xs
theorem tps_mk {K : PySem.W.Frag} {G : Hp} {a : Addr} {vs : List V} {xs : List SD} (h1 : G a = some (.tup vs)) (h2 : DSs K G vs xs) : DS K G (.ref a) (TpS K xs) := .ob ⟨a, vs, rfl, h1, h2⟩ fun G' e => ⟨a, vs, rfl, e _ _ h1, dss_mono e h2⟩
section
variable {X : Cx} {ds : DE} {m : MS} {e : Expr} {es : List Expr} {pos : Pos}
theorem we_tupS {P : SD → MS → Prop} {k} (h : WA X es ds m fun xs m1 => xs.length ≤ 1000000 ∧ P (TpS X.K xs) m1) : WE X (.Tuple es k pos) ds m P := fun σ G H E w Q q => oE (pe_tup (pA es)) (by
  refine h σ G H E w _ fun vs xs m1 G1 H1 g1 r1 ⟨hl, p⟩ => ?_
  refine ⟨by rw [r1.length]; exact Nat.le_trans hl (by decide), fun a ha => ?_⟩
  have g2 := Gr.new (o := .tup vs) g1.wd ha
  exact q _ _ _ _ _ (g1.trans g2) (tps_mk upd_same (dss_mono g2.g r1)) p)
theorem wg_tupS {tgs : List Expr} {js : List Nat} {xs : List SD} {k : Nat} {P : DE → MS → Prop} (h : WGs X tgs js xs ds m P) (hc : X.calm = true := by rfl)
    (hn : (assignEach tgs X.env).length = xs.length := by rfl) (hst : (assignEach tgs X.env).findIdx? (·.1) = none := by rfl) : WG X (.Tuple tgs k pos) js (TpS X.K xs) ds m P := fun σ G H v E w r Q q => by
  obtain ⟨a, vs, rfl, h1, h2⟩ := ds_ob r
  exact oG (pg_tup hc (pGs tgs) rfl hst) ⟨a, vs, rfl, .inl (.inl (w.w _ _ h1)), by rw [hn, h2.length], h σ G H vs E w h2 Q q⟩
theorem sub_tupS {xs : List SD} {i : Int} {d : SD} (hi : 0 ≤ i) (hd : xs[i.toNat]? = some d) : SubD X m (TpS X.K xs) (I i) d := ⟨_, ix_tup, fun G H v u w r1 r2 Q q => by
  obtain ⟨a, vs, rfl, h1, h2⟩ := ds_ob r1
  cases ds_int r2
  have get : ∀ {vs : List V} {xs : List SD} {n : Nat} {d : SD}, DSs X.K G vs xs → xs[n]? = some d → ∃ v, vs[n]? = some v ∧ DS X.K G v d := by
    intro vs xs n d r
    induction r generalizing n with
    | nil => intro e; simp at e
    | cons a b ih =>
      intro e
      cases n with
      | zero => simp at e; subst e; exact ⟨_, rfl, a⟩
      | succ n => exact ih (n := n) (by simpa using e)
  obtain ⟨x, h3, h4⟩ := get h2 hd
  exact ⟨a, vs, i, x, rfl, rfl, .inl (.inl (w.w _ _ h1)), at_of (j := i.toNat) (by omega) h3, q _ _ _ (.refl w) h4⟩⟩
end
end W9
namespace W9
open PySem PySem.Spec PyProof.Rows L2
/-! ### methods of instances that are owned -/
section
variable {X : Cx} {ds : DE} {m : MS} {e o : Expr} {es : List Expr} {kws : List Keyword} {pos apos : Pos} {k : Nat} {g C : Addr} {fd : FuncData} {ps : List Str} {F : FTX} {FD : FT} {nm : Str}
/-- the receiver -/
def Rcv (X : Cx) (C : Addr) (x : SD) (m : MS) (P : Addr → Prop) : Prop := ∃ a dx l, x = .raw (.ref a) ∧ (a, OV.ins a C dx l) ∈ m ∧ (dx, OV.ho (.xd [])) ∈ m ∧ P a
theorem rcv_slt {K : PySem.W.Frag} {G H : Hp} {a dx : Addr} {l : List (Option SD)} (w : Wd K m G H) (h1 : (a, OV.ins a C dx l) ∈ m) (h2 : (dx, OV.ho (.xd [])) ∈ m) : ∃ vs, SlX.Slt H a C dx vs := by
  obtain ⟨vs, z, _⟩ := own_ins w h1
  exact ⟨vs, .inr ⟨z, own_ho w h2⟩⟩
theorem nK {σ : L2.St} {Q : List V → Hp → Prop} {pins : List (Addr × Obj)} {s : Shared} {t : Sem (List Value)} (h : wpAny (model X.nox.prog X.nox.w) X.nox.A t (AP X.nox pins σ Q) X.nox.xe s) : wpAny (model X.prog X.w) X.A t (AP X pins σ Q) X.xe s :=
  wpAny_mono h (fun _ _ ⟨v, H', I', r, q⟩ => ⟨v, H', I'.unwish, r, q⟩) fun _ _ z => False.elim z
theorem xe_meth {P : SD → MS → Prop} {R : RX} {pl : Sem Bool} (FO : FnG X.prog X.w X.K X.mg X.base (L2.CX X.prog X.w) k g fd ps (SpX X.K F)) (hr : Rm k X.A) (c : SlX.SCls X.K C) (hm : Meth X.K C nm g) (hb : Binds X.K fd ps [])
    (h : WE X.nox o ds m fun x m1 => Rcv X C x m1 fun a => WA X.nox (e :: es) ds m1 fun xs m2 => ∃ fr mc, m2 = fr ++ mc ∧ F (.raw (.ref a) :: xs) mc (fun d m3 => P d (fr ++ m3)) fun C y m3 => R C y ds (fr ++ m3))
    (hst : starEach (e :: es) X.env = (false, eval e X.env) :: starEach es X.env := by rfl) (hpl : (backTo pos (starEach es X.env)).any (·.1) = false := by rfl)
    (ht : eval (.Call (.Attribute o nm apos) (e :: es) [] pos) X.env = (do
      let ov ← eval o X.env
      standAt apos.atName
      let (f, first) ← holding [ov] (getMethod ov nm pl)
      callWith pos f first (backTo pos (starEach (e :: es) X.env)) (backToKw pos (keywordEach [] X.env))) := by rfl) : XEx X (.Call (.Attribute o nm apos) (e :: es) [] pos) ds m P R := fun W tk σ G H E w xo Q q => by
  intro pins s J
  refine PySem.W.methodCall_KW (pl := pl) (thn (nxE (h σ G H E w (fun v H1 => ∃ a m1 G1, v = .ref a ∧ Gr X.K m m1 G H G1 H1 ∧ (∃ dx l, (a, OV.ins a C dx l) ∈ m1 ∧ (dx, OV.ho (.xd [])) ∈ m1) ∧ WA X.nox (e :: es) ds m1 fun xs m2 => ∃ fr mc, m2 = fr ++ mc ∧ F (.raw (.ref a) :: xs) mc (fun d m3 => P d (fr ++ m3)) fun C y m3 => R C y ds (fr ++ m3))
    fun v x m1 G1 H1 g1 r1 ⟨a, dx, l, ex, h1, h2, h3⟩ => by subst ex; exact ⟨a, m1, G1, ds_raw r1, g1, ⟨dx, l, h1, h2⟩, h3⟩) pins s J) fun u s1 ⟨v, H1, J1, rv, a, m1, G1, ev, g1, ⟨dx, l, h1, h2⟩, h3⟩ => ?_) ht
  subst ev
  obtain rfl : u = Value.ref a := rv
  obtain ⟨vs, hs⟩ := rcv_slt g1.wd h1 h2
  refine SlX.getmethsl_ok J1 hs c hm ?_
  refine PySem.W.callWith_K (first := [.ref a]) (h₀ := X.base) J1.ok.mod.kin hm.kp (thn (nA (h3 σ G1 H1 (E.mono g1.g) g1.wd (fun vs H2 => SpX X.K F (.ref a :: vs) H2 Q (L2.WE W σ)) fun vs xs m2 G2 H2 g2 r2 ⟨fr, mc, e1, hF⟩ => ?_) pos pins s1 J1) fun us s2 ⟨vs, H2, J2, r, hsp⟩ => ⟨J2.kIn, ?_⟩) hst hpl
  · subst e1
    exact ⟨G2, mc, _, _, _, g2.wd.sub, .cons (.raw _) r2, hF, fun v d m' G' H' g3 r3 p => q v d _ G' H' ((g1.trans g2).trans (Gr.frame g2.wd g3)) r3 p,
      fun C y d v m' G' H' g3 z1 z2 p => xo C y d v σ ds _ G' H' ((g1.trans g2).trans (Gr.frame g2.wd g3)) z1 z2 (E.mono ((g1.trans g2).trans (Gr.frame g2.wd g3)).g) p⟩
  · have r' : Vals (V.ref a :: vs) (Value.ref a :: us) := .cons rfl r
    have hl : (Value.ref a :: us).length = ps.length := by rw [← r'.length]; exact FO.len _ _ _ _ hsp
    have b0 := hb s2 (.ref a :: us) J2.kIn (by rw [List.append_nil]; exact hl)
    rw [List.append_nil] at b0
    exact wpAny_call (codeAny_mono (run_fnS9 FO hr b0 (passAt tk σ) J2 r' hsp) fun rr s' hq => by
      match rr, hq with
      | .ok (.ret u), hq => exact hq
      | .error e, hq => exact hq
      | .ok .brk, hq => exact hq.elim
      | .ok .cont, hq => exact hq.elim
      | .ok .next, hq => exact hq.elim)
theorem xe_meth0 {P : SD → MS → Prop} {R : RX} {pl : Sem Bool} (FO : FnG X.prog X.w X.K X.mg X.base (L2.CX X.prog X.w) k g fd ps (SpX X.K F)) (hr : Rm k X.A) (c : SlX.SCls X.K C) (hm : Meth X.K C nm g) (hb : Binds X.K fd ps [])
    (h : WE X.nox o ds m fun x m1 => Rcv X C x m1 fun a => ∃ fr mc, m1 = fr ++ mc ∧ F [.raw (.ref a)] mc (fun d m3 => P d (fr ++ m3)) fun C y m3 => R C y ds (fr ++ m3))
    (ht : eval (.Call (.Attribute o nm apos) [] [] pos) X.env = (do
      let ov ← eval o X.env
      standAt apos.atName
      let (f, first) ← holding [ov] (getMethod ov nm pl)
      callWith pos f first (backTo pos (starEach [] X.env)) (backToKw pos (keywordEach [] X.env))) := by rfl) : XEx X (.Call (.Attribute o nm apos) [] [] pos) ds m P R := fun W tk σ G H E w xo Q q => by
  intro pins s J
  refine PySem.W.methodCall_KW (pl := pl) (thn (nxE (h σ G H E w (fun v H1 => ∃ a m1 G1, v = .ref a ∧ Gr X.K m m1 G H G1 H1 ∧ (∃ dx l, (a, OV.ins a C dx l) ∈ m1 ∧ (dx, OV.ho (.xd [])) ∈ m1) ∧ ∃ fr mc, m1 = fr ++ mc ∧ F [.raw (.ref a)] mc (fun d m3 => P d (fr ++ m3)) fun C y m3 => R C y ds (fr ++ m3))
    fun v x m1 G1 H1 g1 r1 ⟨a, dx, l, ex, h1, h2, h3⟩ => by subst ex; exact ⟨a, m1, G1, ds_raw r1, g1, ⟨dx, l, h1, h2⟩, h3⟩) pins s J) fun u s1 ⟨v, H1, J1, rv, a, m1, G1, ev, g1, ⟨dx, l, h1, h2⟩, fr, mc, e1, hF⟩ => ?_) ht
  subst ev e1
  obtain rfl : u = Value.ref a := rv
  obtain ⟨vs, hs⟩ := rcv_slt g1.wd h1 h2
  have hsp : SpX X.K F [.ref a] H1 Q (L2.WE W σ) := ⟨G1, mc, _, _, _, g1.wd.sub, .cons (.raw _) .nil, hF, fun v d m' G' H' g3 r3 p => q v d _ G' H' (g1.trans (Gr.frame g1.wd g3)) r3 p,
      fun C y d v m' G' H' g3 z1 z2 p => xo C y d v σ ds _ G' H' (g1.trans (Gr.frame g1.wd g3)) z1 z2 (E.mono (g1.trans (Gr.frame g1.wd g3)).g) p⟩
  refine SlX.getmethsl_ok J1 hs c hm ?_
  have r' : Vals [V.ref a] [Value.ref a] := .cons rfl .nil
  have hl : [Value.ref a].length = ps.length := by rw [← r'.length]; exact FO.len _ _ _ _ hsp
  have b0 := hb s1 [.ref a] J1.kIn (by rw [List.append_nil]; exact hl)
  rw [List.append_nil] at b0
  exact PySem.W.callWith_K0 (first := [.ref a]) J1.kIn hm.kp (wpAny_call (codeAny_mono (run_fnS9 FO hr b0 (passAt tk σ) J1 r' hsp) fun rr s' hq => by
      match rr, hq with
      | .ok (.ret u), hq => exact hq
      | .error e, hq => exact hq
      | .ok .brk, hq => exact hq.elim
      | .ok .cont, hq => exact hq.elim
      | .ok .next, hq => exact hq.elim))
/-- all but the receiver by keywords -/
theorem xe_methK {P : SD → MS → Prop} {R : RX} {pl : Sem Bool} {ks : List Str} {gU : List Value → List Value} {gV : List V → List V} {xs ys : List SD} (FO : FnG X.prog X.w X.K X.mg X.base (L2.CX X.prog X.w) k g fd ps (SpX X.K F)) (hr : Rm k X.A) (c : SlX.SCls X.K C) (hm : Meth X.K C nm g)
    (hb : ∀ (s : Shared) (a : Value) (us : List Value), X.K.In s.heap → us.length = ks.length → BindsTo s fd ⟨[a], ks.zip us⟩ (ps.zip (a :: gU us))) (hl : xs.length = ks.length) (hV : ∀ vs us, Vals vs us → Vals (gV vs) (gU us)) (hD : ∀ G vs, DSs X.K G vs xs → DSs X.K G (gV vs) ys)
    (h : WE X.nox o ds m fun x m1 => Rcv X C x m1 fun a => ∃ fr mc, m1 = fr ++ mc ∧ F (.raw (.ref a) :: ys) mc (fun d m3 => P d (fr ++ m3)) fun C y m3 => R C y ds (fr ++ m3)) (hk : EK X.nox kws ds xs)
    (hall : (backToKw pos (keywordEach kws X.env)).all (·.1.isSome) = true := by rfl) (hks : (backToKw pos (keywordEach kws X.env)).filterMap (·.1) = ks := by rfl)
    (hpl : ((backTo pos (starEach [] X.env)).any (·.1) || (backToKw pos (keywordEach kws X.env)).any (·.1.isNone)) = false := by rfl)
    (ht : eval (.Call (.Attribute o nm apos) [] kws pos) X.env = (do
      let ov ← eval o X.env
      standAt apos.atName
      let (f, first) ← holding [ov] (getMethod ov nm pl)
      callWith pos f first (backTo pos (starEach [] X.env)) (backToKw pos (keywordEach kws X.env))) := by rfl) : XEx X (.Call (.Attribute o nm apos) [] kws pos) ds m P R := fun W tk σ G H E w xo Q q => by
  intro pins s J
  refine PySem.W.methodCall_KW (pl := pl) (thn (nxE (h σ G H E w (fun v H1 => ∃ a m1 G1, v = .ref a ∧ Gr X.K m m1 G H G1 H1 ∧ (∃ dx l, (a, OV.ins a C dx l) ∈ m1 ∧ (dx, OV.ho (.xd [])) ∈ m1) ∧ ∃ fr mc, m1 = fr ++ mc ∧ F (.raw (.ref a) :: ys) mc (fun d m3 => P d (fr ++ m3)) fun C y m3 => R C y ds (fr ++ m3))
    fun v x m1 G1 H1 g1 r1 ⟨a, dx, l, ex, h1, h2, h3⟩ => by subst ex; exact ⟨a, m1, G1, ds_raw r1, g1, ⟨dx, l, h1, h2⟩, h3⟩) pins s J) fun u s1 ⟨v, H1, J1, rv, a, m1, G1, ev, g1, ⟨dx, l, h1, h2⟩, fr, mc, e1, hF⟩ => ?_) ht
  subst ev e1
  obtain rfl : u = Value.ref a := rv
  obtain ⟨vs, hs⟩ := rcv_slt g1.wd h1 h2
  refine SlX.getmethsl_ok J1 hs c hm ?_
  refine PySem.W.callWith_KW0 (first := [.ref a]) (h₀ := X.base) J1.ok.mod.kin hm.kp hall ?_ hpl
  refine thn (nK (hk (fr ++ mc) σ G1 H1 (E.mono g1.g) g1.wd (fun vs H1 => vs.length = ks.length ∧ SpX X.K F (.ref a :: gV vs) H1 Q (L2.WE W σ)) (fun vs G2 H2 g2 r2 => ⟨by rw [r2.length, hl], ?_⟩) pos pins s1 (J1.wish _))) fun us s2 ⟨vs, H2, J2, r, hn, hsp⟩ => ⟨J2.kIn, ?_⟩
  · exact ⟨G2, mc, _, _, _, g2.wd.sub, .cons (.raw _) (hD _ _ r2), hF, fun v d m' G' H' g3 r3 p => q v d _ G' H' ((g1.trans g2).trans (Gr.frame g2.wd g3)) r3 p,
      fun C y d v m' G' H' g3 z1 z2 p => xo C y d v σ ds _ G' H' ((g1.trans g2).trans (Gr.frame g2.wd g3)) z1 z2 (E.mono ((g1.trans g2).trans (Gr.frame g2.wd g3)).g) p⟩
  · rw [hks]
    exact wpAny_call (codeAny_mono (run_fnS9 FO hr (hb s2 (.ref a) us J2.kIn (by rw [← r.length]; exact hn)) (passAt tk σ) J2 (vs := .ref a :: gV vs) (.cons rfl (hV _ _ r)) hsp) fun rr s' hq => by
      match rr, hq with
      | .ok (.ret u), hq => exact hq
      | .error e, hq => exact hq
      | .ok .brk, hq => exact hq.elim
      | .ok .cont, hq => exact hq.elim
      | .ok .next, hq => exact hq.elim)
/-- a method that raises nothing -/
theorem wg_meth {P : SD → MS → Prop} {pl : Sem Bool} (FO : FnG X.prog X.w X.K X.mg X.base CX0 k g fd ps (SpD X.K FD)) (hr : Rm k X.A) (c : SlX.SCls X.K C) (hm : Meth X.K C nm g) (hb : Binds X.K fd ps [])
    (h : WE X o ds m fun x m1 => Rcv X C x m1 fun a => WA X (e :: es) ds m1 fun xs m2 => ∃ fr mc, m2 = fr ++ mc ∧ FD (.raw (.ref a) :: xs) mc fun d m3 => P d (fr ++ m3))
    (hst : starEach (e :: es) X.env = (false, eval e X.env) :: starEach es X.env := by rfl) (hpl : (backTo pos (starEach es X.env)).any (·.1) = false := by rfl)
    (ht : eval (.Call (.Attribute o nm apos) (e :: es) [] pos) X.env = (do
      let ov ← eval o X.env
      standAt apos.atName
      let (f, first) ← holding [ov] (getMethod ov nm pl)
      callWith pos f first (backTo pos (starEach (e :: es) X.env)) (backToKw pos (keywordEach [] X.env))) := by rfl) : WE X (.Call (.Attribute o nm apos) (e :: es) [] pos) ds m P := fun σ G H E w Q q => by
  intro pins s J
  refine PySem.W.methodCall_KW (pl := pl) (thn (h σ G H E w (fun v H1 => ∃ a m1 G1, v = .ref a ∧ Gr X.K m m1 G H G1 H1 ∧ (∃ dx l, (a, OV.ins a C dx l) ∈ m1 ∧ (dx, OV.ho (.xd [])) ∈ m1) ∧ WA X (e :: es) ds m1 fun xs m2 => ∃ fr mc, m2 = fr ++ mc ∧ FD (.raw (.ref a) :: xs) mc fun d m3 => P d (fr ++ m3))
    (fun v x m1 G1 H1 g1 r1 ⟨a, dx, l, ex, h1, h2, h3⟩ => by subst ex; exact ⟨a, m1, G1, ds_raw r1, g1, ⟨dx, l, h1, h2⟩, h3⟩) pins s J) fun u s1 ⟨v, H1, J1, rv, a, m1, G1, ev, g1, ⟨dx, l, h1, h2⟩, h3⟩ => ?_) ht
  subst ev
  obtain rfl : u = Value.ref a := rv
  obtain ⟨vs, hs⟩ := rcv_slt g1.wd h1 h2
  refine SlX.getmethsl_ok J1 hs c hm ?_
  refine PySem.W.callWith_K (first := [.ref a]) (h₀ := X.base) J1.ok.mod.kin hm.kp (thn (h3 σ G1 H1 (E.mono g1.g) g1.wd (fun vs H2 => SpD X.K FD (.ref a :: vs) H2 Q E0) (fun vs xs m2 G2 H2 g2 r2 ⟨fr, mc, e1, hF⟩ => ?_) pos pins s1 J1) fun us s2 ⟨vs, H2, J2, r, hsp⟩ => ⟨J2.kIn, ?_⟩) hst hpl
  · subst e1
    exact ⟨G2, mc, _, _, g2.wd.sub, .cons (.raw _) r2, hF, fun v d m' G' H' g3 r3 p => q v d _ G' H' ((g1.trans g2).trans (Gr.frame g2.wd g3)) r3 p⟩
  · have r' : Vals (V.ref a :: vs) (Value.ref a :: us) := .cons rfl r
    have hl : (Value.ref a :: us).length = ps.length := by rw [← r'.length]; exact FO.len _ _ _ _ hsp
    have b0 := hb s2 (.ref a :: us) J2.kIn (by rw [List.append_nil]; exact hl)
    rw [List.append_nil] at b0
    exact wpAny_call (codeAny_mono (run_fnG FO hr b0 pass0 J2 r' hsp) fun rr s' hq => by
      match rr, hq with
      | .ok (.ret u), hq => exact hq
      | .error e, hq => exact hq
      | .ok .brk, hq => exact hq.elim
      | .ok .cont, hq => exact hq.elim
      | .ok .next, hq => exact hq.elim)
theorem wg_meth0 {P : SD → MS → Prop} {pl : Sem Bool} (FO : FnG X.prog X.w X.K X.mg X.base CX0 k g fd ps (SpD X.K FD)) (hr : Rm k X.A) (c : SlX.SCls X.K C) (hm : Meth X.K C nm g) (hb : Binds X.K fd ps [])
    (h : WE X o ds m fun x m1 => Rcv X C x m1 fun a => ∃ fr mc, m1 = fr ++ mc ∧ FD [.raw (.ref a)] mc fun d m3 => P d (fr ++ m3))
    (ht : eval (.Call (.Attribute o nm apos) [] [] pos) X.env = (do
      let ov ← eval o X.env
      standAt apos.atName
      let (f, first) ← holding [ov] (getMethod ov nm pl)
      callWith pos f first (backTo pos (starEach [] X.env)) (backToKw pos (keywordEach [] X.env))) := by rfl) : WE X (.Call (.Attribute o nm apos) [] [] pos) ds m P := fun σ G H E w Q q => by
  intro pins s J
  refine PySem.W.methodCall_KW (pl := pl) (thn (h σ G H E w (fun v H1 => ∃ a m1 G1, v = .ref a ∧ Gr X.K m m1 G H G1 H1 ∧ (∃ dx l, (a, OV.ins a C dx l) ∈ m1 ∧ (dx, OV.ho (.xd [])) ∈ m1) ∧ ∃ fr mc, m1 = fr ++ mc ∧ FD [.raw (.ref a)] mc fun d m3 => P d (fr ++ m3))
    (fun v x m1 G1 H1 g1 r1 ⟨a, dx, l, ex, h1, h2, h3⟩ => by subst ex; exact ⟨a, m1, G1, ds_raw r1, g1, ⟨dx, l, h1, h2⟩, h3⟩) pins s J) fun u s1 ⟨v, H1, J1, rv, a, m1, G1, ev, g1, ⟨dx, l, h1, h2⟩, fr, mc, e1, hF⟩ => ?_) ht
  subst ev e1
  obtain rfl : u = Value.ref a := rv
  obtain ⟨vs, hs⟩ := rcv_slt g1.wd h1 h2
  have hsp : SpD X.K FD [.ref a] H1 Q E0 := ⟨G1, mc, _, _, g1.wd.sub, .cons (.raw _) .nil, hF, fun v d m' G' H' g3 r3 p => q v d _ G' H' (g1.trans (Gr.frame g1.wd g3)) r3 p⟩
  refine SlX.getmethsl_ok J1 hs c hm ?_
  have r' : Vals [V.ref a] [Value.ref a] := .cons rfl .nil
  have hl : [Value.ref a].length = ps.length := by rw [← r'.length]; exact FO.len _ _ _ _ hsp
  have b0 := hb s1 [.ref a] J1.kIn (by rw [List.append_nil]; exact hl)
  rw [List.append_nil] at b0
  exact PySem.W.callWith_K0 (first := [.ref a]) J1.kIn hm.kp (wpAny_call (codeAny_mono (run_fnG FO hr b0 pass0 J1 r' hsp) fun rr s' hq => by
      match rr, hq with
      | .ok (.ret u), hq => exact hq
      | .error e, hq => exact hq
      | .ok .brk, hq => exact hq.elim
      | .ok .cont, hq => exact hq.elim
      | .ok .next, hq => exact hq.elim))
/-- what a property asks of the class -/
structure Prp (K : PySem.W.Frag) (C : Addr) (f : Str) (g : Addr) : Prop where
  ex : ∃ p, PySem.W.findIn K (.ref C) f = some (some (.ref p)) ∧ PySem.W.specialIn K (.ref p) "__get__" = some (some (.builtin "property.__get__")) ∧ PySem.W.takesIn K (.ref p) = some true ∧ ∃ rest, PySem.W.recIn K p "property" = some (.ref g :: rest)
theorem wg_prop {P : SD → MS → Prop} (FO : FnG X.prog X.w X.K X.mg X.base CX0 k g fd ps (SpD X.K FD)) (hr : Rm (k + 1) X.A) (c : SlX.SCls X.K C) (hp : Prp X.K C nm g) (hb : Binds X.K fd ps [])
    (h : WE X o ds m fun x m1 => Rcv X C x m1 fun a => ∃ fr mc, m1 = fr ++ mc ∧ FD [.raw (.ref a)] mc fun d m3 => P d (fr ++ m3)) (hat : attributeBase o nm X.env (eval o X.env) = eval o X.env := by rfl) : WE X (.Attribute o nm pos) ds m P := fun σ G H E w Q q => by
  intro pins s J
  refine attr_of hat (thn (h σ G H E w (fun v H1 => ∃ a m1 G1, v = .ref a ∧ Gr X.K m m1 G H G1 H1 ∧ (∃ dx l, (a, OV.ins a C dx l) ∈ m1 ∧ (dx, OV.ho (.xd [])) ∈ m1) ∧ ∃ fr mc, m1 = fr ++ mc ∧ FD [.raw (.ref a)] mc fun d m3 => P d (fr ++ m3))
    (fun v x m1 G1 H1 g1 r1 ⟨a, dx, l, ex, h1, h2, h3⟩ => by subst ex; exact ⟨a, m1, G1, ds_raw r1, g1, ⟨dx, l, h1, h2⟩, h3⟩) pins s J) fun u s1 ⟨v, H1, J1, rv, a, m1, G1, ev, g1, ⟨dx, l, h1, h2⟩, fr, mc, e1, hF⟩ => ?_)
  subst ev e1
  obtain rfl : u = Value.ref a := rv
  obtain ⟨vs, hs⟩ := rcv_slt g1.wd h1 h2
  have hsp : SpD X.K FD [.ref a] H1 Q E0 := ⟨G1, mc, _, _, g1.wd.sub, .cons (.raw _) .nil, hF, fun v d m' G' H' g3 r3 p => q v d _ G' H' (g1.trans (Gr.frame g1.wd g3)) r3 p⟩
  obtain ⟨p, p1, p2, p3, rest, p4⟩ := hp.ex
  obtain ⟨sl, od, _, JJ, _⟩ := SlX.slt_inst J1 hs
  have J2 : Inv X pins σ H1 { s1 with toks := s1.toks + 1 } := J1.tok (s1.toks + 1)
  have r' : Vals [V.ref a] [Value.ref a] := .cons rfl .nil
  have hl : [Value.ref a].length = ps.length := by rw [← r'.length]; exact FO.len _ _ _ _ hsp
  have b0 := hb { s1 with toks := s1.toks + 1 } [.ref a] J2.kIn (by rw [List.append_nil]; exact hl)
  rw [List.append_nil] at b0
  have hr1 : Rm k X.A.in1 := ⟨hr.r.in1, hr.g⟩
  refine PySem.W.get_bind J1.kIn JJ (PySem.W.plainGet_of (c.get nm)).1 (PySem.W.findObj_data c.ic p1 p2 p3) (PySem.W.plainGet_of (c.get nm)).2 (wpAny_call (PySem.W.prop_get (s := { s1 with toks := s1.toks + 1 }) J1.kIn p4 ?_))
  refine codeAny_mono (FO.go X.A.in1 X.stack { s1 with toks := s1.toks + 1 } H1 ⟨[.ref a], []⟩ [.ref a] [.ref a] Q E0 hr1 J2.env0.in1 b0 r' hsp) fun rr s' hq => ?_
  match rr, hq with
  | .ok (.ret u), hq =>
    obtain ⟨v, H', J3, rv, q3⟩ := J2.after hq
    exact wpAny_of_eq (PySem.W.handedOut_of (handed_of rv)) ⟨v, H', J3, rv, q3⟩
  | .error e, hq => exact hq.elim
  | .ok .brk, hq => exact hq.elim
  | .ok .cont, hq => exact hq.elim
  | .ok .next, hq => exact hq.elim
end
end W9
namespace W9
open PySem PySem.Spec PyProof.Rows L2 LamX
/-! ### where no error comes -/
section
variable {X : Cx} {ds : DE} {m : MS} {e : Expr} {sts : List Stmt}
theorem we_of_xe {P : SD → MS → Prop} (h : XEx X e ds m P fun _ _ _ _ => False) : WE X e ds m P := fun σ G H E w Q q => h (fun _ _ _ _ => False) takesF σ G H E w (fun _ _ _ _ _ _ _ _ _ _ _ _ _ z => z.elim) Q q
theorem XEx.mono {P P' : SD → MS → Prop} {R R' : RX} (h : XEx X e ds m P R) (k : ∀ d m', P d m' → P' d m') (k2 : ∀ C x ds' m', R C x ds' m' → R' C x ds' m') : XEx X e ds m P' R' := fun W tk σ G H E w x Q q =>
  h W tk σ G H E w (fun C y d v σ' ds' m' G' H' g h1 h2 e1 r => x C y d v σ' ds' m' G' H' g h1 h2 e1 (k2 _ _ _ _ r)) Q fun v d m' G' H' g r p => q v d m' G' H' g r (k _ _ p)
end
/-! ### defs: with defaults, and their code told -/
structure FunA (K : PySem.W.Frag) (x qual : Str) (st : Stmt) (f : Addr) (fd : FuncData) : Prop where
  ex : ∃ (oc : Value) (od : Option Addr) (dV kV doc pm : Value) (an : Option Addr) (cdv ct : Value) (osl : Array (Option Value)),
    fd = PySem.W.fnOf x qual (defArgs st) (defBody st) (defScope st) dV kV doc pm an cdv ct ∧ K.lookup f = some ⟨oc, od, .func fd, osl⟩ ∧ PySem.W.codeIn K cdv qual = true
  kp : PySem.W.keepIn K (.ref f) = true
theorem Fun.toA {K : PySem.W.Frag} {x qual : Str} {st : Stmt} {f : Addr} {fd : FuncData} (F : Fun K x qual st f fd) : FunA K x qual st f fd := ⟨by
  obtain ⟨oc, od, kV, doc, pm, an, cdv, ct, osl, e1, e2, e3⟩ := F.ex
  exact ⟨oc, od, .none, kV, doc, pm, an, cdv, ct, osl, e1, e2, e3⟩, F.kp⟩
section
variable {P : Program} {w : World} {K : PySem.W.Frag} {mg : Str → Option Value} {base : Heap} {x qual : Str} {st : Stmt} {f : Addr} {fd : FuncData} {N ps : List Str} {k : Nat}
theorem fnX_okA {FF : FTX} (F : FunA K x qual st f fd) (S : FnScope N ps (defScope st)) (hlen : ∀ xs m Pp R, FF xs m Pp R → xs.length = ps.length)
    (hbody : ∀ cdv A outer s H E, fd.code = cdv → Rm k (bXX P w K mg base N qual (defScope st) f cdv A outer s H E).A → ∀ xs m Pp R, FF xs m Pp R →
      XSs (bXX P w K mg base N qual (defScope st) f cdv A outer s H E) (defBody st) (startD N xs) m ⟨fun _ m => Pp N0 m, Pp, fun _ _ => False, fun _ _ => False⟩ fun C x _ m => R C x m) : FnG P w K mg base (L2.CX P w) (k + 1) f fd ps (SpX K FF) := by
  obtain ⟨oc, od, dV, kV, doc, pm, an, cdv, ct, osl, rfl, lk, hcd⟩ := F.ex
  have len : ∀ vs H Q E, SpX K FF vs H Q E → vs.length = ps.length := fun vs H Q E ⟨G, m, ds, Pp, R, _, r, hF, _⟩ => by rw [r.length, hlen _ _ _ _ hF]
  refine ⟨len, fun A outer s H args us vs Q E rm e0 hb rv hsp => ?_⟩
  have kin := e0.mod.kin.keeps fun b o e => (e0.bs b o e).1
  have kinds : ∀ y ∈ ps.zip us, (defScope st).names.lookup y.1 = some .local ∨ ((defScope st).names.lookup y.1 = some .cell ∧ ((cellsFrom (s.heap.objs.size + 1) (defScope st).names []).lookup y.1).isSome = true) := by
    rintro ⟨n, v⟩ hy
    exact (S.par n (List.of_mem_zip hy).1).imp id fun q => ⟨q, PySem.W.cellsFrom_some _ _ _ (.inl q)⟩
  have rm' : Rm k (bXX P w K mg base N qual (defScope st) f cdv A outer s H E).A := ⟨rm.r.deeper _, rm.g⟩
  obtain ⟨G, m, ds, Pp, R, wd, rd, hF, post, postX⟩ := id hsp
  refine codeAny_call_function rm.r.depth (kin _ _ lk) rfl S.co S.gen rfl (PySem.W.codeRec_of kin hcd) (hb _ _ _ _ (wpAny_newFunctionEnv_cells S.kind kinds ?_))
  rintro env rfl s1 ic
  refine ⟨(e0.mod.nolimit.keeps fun b o e => (e0.bs b o e).1).keeps ic.toInCall.keep, codeAny_func ?_⟩
  have J := inv_start (CX := L2.CX P w) (E := E) S rm.r.hd e0 (len _ _ _ _ hsp) rv ic
  have tk : Takes (bXX P w K mg base N qual (defScope st) f cdv A outer s H E) (fun cls d _ H => E cls d H) := takes_of rfl rfl rfl rfl
  have body := hbody cdv A outer s H E rfl rm' ds m Pp R hF _ tk (L2.start N vs) G H (env_start rd) wd (fun C x d v σ ds m' G' H' g h1 h2 _ r => postX C x d v m' G' H' g h1 h2 r)
    { nx := fun _ H' => Q .non H', rt := Q, bk := fun _ _ => False, ct := fun _ _ => False }
    ⟨fun σ' ds' m' G' H' g _ p => post _ _ _ _ _ g (.py .non) p, fun v d m' G' H' g r p => post _ _ _ _ _ g r p, fun _ _ _ _ _ _ _ p => p, fun _ _ _ _ _ _ _ p => p⟩
  refine wpAny_mono (body [] s1 J) (fun fl s' hs => ?_) fun _ _ z => z
  cases fl with
  | next => obtain ⟨σ', H', J', q⟩ := hs; exact ⟨.non, H', J'.os, J'.bare, J'.base, J'.hok, rfl, q⟩
  | ret u => obtain ⟨v, σ', H', J', r', q⟩ := hs; exact ⟨v, H', J'.os, J'.bare, J'.base, J'.hok, r', q⟩
  | brk => obtain ⟨_, _, _, z⟩ := hs; exact z.elim
  | cont => obtain ⟨_, _, _, z⟩ := hs; exact z.elim
theorem fnD_okA {FF : FT} (F : FunA K x qual st f fd) (S : FnScope N ps (defScope st)) (hlen : ∀ xs m Pp, FF xs m Pp → xs.length = ps.length)
    (hbody : ∀ cdv A outer s H E, fd.code = cdv → Rm k (bX P w K mg base N qual (defScope st) f cdv A outer s H E).A → ∀ xs m Pp, FF xs m Pp →
      WSs (bX P w K mg base N qual (defScope st) f cdv A outer s H E) (defBody st) (startD N xs) m ⟨fun _ m => Pp N0 m, Pp, fun _ _ => False, fun _ _ => False⟩) : FnG P w K mg base CX0 (k + 1) f fd ps (SpD K FF) := by
  obtain ⟨oc, od, dV, kV, doc, pm, an, cdv, ct, osl, rfl, lk, hcd⟩ := F.ex
  have len : ∀ vs H Q E, SpD K FF vs H Q E → vs.length = ps.length := fun vs H Q E ⟨G, m, ds, Pp, _, r, hF, _⟩ => by rw [r.length, hlen _ _ _ hF]
  refine ⟨len, fun A outer s H args us vs Q E rm e0 hb rv hsp => ?_⟩
  have kin := e0.mod.kin.keeps fun b o e => (e0.bs b o e).1
  have kinds : ∀ y ∈ ps.zip us, (defScope st).names.lookup y.1 = some .local ∨ ((defScope st).names.lookup y.1 = some .cell ∧ ((cellsFrom (s.heap.objs.size + 1) (defScope st).names []).lookup y.1).isSome = true) := by
    rintro ⟨n, v⟩ hy
    exact (S.par n (List.of_mem_zip hy).1).imp id fun q => ⟨q, PySem.W.cellsFrom_some _ _ _ (.inl q)⟩
  have rm' : Rm k (bX P w K mg base N qual (defScope st) f cdv A outer s H E).A := ⟨rm.r.deeper _, rm.g⟩
  obtain ⟨G, m, ds, Pp, wd, rd, hF, post⟩ := id hsp
  refine codeAny_call_function rm.r.depth (kin _ _ lk) rfl S.co S.gen rfl (PySem.W.codeRec_of kin hcd) (hb _ _ _ _ (wpAny_newFunctionEnv_cells S.kind kinds ?_))
  rintro env rfl s1 ic
  refine ⟨(e0.mod.nolimit.keeps fun b o e => (e0.bs b o e).1).keeps ic.toInCall.keep, codeAny_func ?_⟩
  have J := (inv_start (CX := CX0) (E := E) S rm.r.hd e0 (len _ _ _ _ hsp) rv ic).wish fun _ _ => False
  have body := hbody cdv A outer s H E rfl rm' ds m Pp hF (L2.start N vs) G H (env_start rd) wd { nx := fun _ H' => Q .non H', rt := Q, bk := fun _ _ => False, ct := fun _ _ => False }
    ⟨fun σ' ds' m' G' H' g _ p => post _ _ _ _ _ g (.py .non) p, fun v d m' G' H' g r p => post _ _ _ _ _ g r p, fun _ _ _ _ _ _ _ p => p, fun _ _ _ _ _ _ _ p => p⟩
  refine wpAny_mono (body [] s1 J) (fun fl s' hs => ?_) fun _ _ z => False.elim z
  cases fl with
  | next => obtain ⟨σ', H', J', q⟩ := hs; exact ⟨.non, H', J'.os, J'.bare, J'.base, J'.hok, rfl, q⟩
  | ret u => obtain ⟨v, σ', H', J', r', q⟩ := hs; exact ⟨v, H', J'.os, J'.bare, J'.base, J'.hok, r', q⟩
  | brk => obtain ⟨_, _, _, z⟩ := hs; exact z.elim
  | cont => obtain ⟨_, _, _, z⟩ := hs; exact z.elim
end
/-! ### a new instance -/
theorem Gr.permute {K : PySem.W.Frag} {m m' m2 : MS} {G H G' H' : Hp} (g : Gr K m m' G H G' H') (p : m'.Perm m2) : Gr K m m2 G H G' H' :=
  ⟨g.g, g.h, g.th, g.fr, fun q hq => g.nw q (p.mem_iff.mpr hq), g.wd.perm p⟩
section
variable {X : Cx} {ds : DE} {m : MS} {e : Expr} {es : List Expr} {pos p : Pos} {k : Nat} {f C : Addr} {fd : FuncData} {ps : List Str} {F : FTX} {x : Str}
theorem xe_make {P : SD → MS → Prop} {R : RX} (M : Mk X.K C f) (FO : FnG X.prog X.w X.K X.mg X.base (L2.CX X.prog X.w) k f fd ps (SpX X.K F)) (hr : Rm (k + 1) X.A) (hm : X.mg x = some (.ref C)) (hb : Binds X.K fd ps [])
    (h : WA X.nox (e :: es) ds m fun xs m1 => ∀ a dx, a ∉ ad m1 → dx ∉ ad m1 → dx ≠ a → F (.raw (.ref a) :: xs) [(a, .ho (.ins C dx [])), (dx, .ho (.own a))] (fun d m2 => d = N0 ∧ P (.raw (.ref a)) (m1 ++ m2)) fun C y m2 => R C y ds (m1 ++ m2))
    (hg : Gl X x := by rfl) (hdb : (x == ("__debug__" : Str)) = false := by decide) (he : starEach (e :: es) X.env = (false, eval e X.env) :: starEach es X.env := by rfl) (hpl : (backTo pos (starEach es X.env)).any (·.1) = false := by rfl) :
    XEx X (.Call (.Name x p) (e :: es) [] pos) ds m P R := fun W tk σ G H E w xo Q q => by
  intro pins s J
  refine wpAny_Call_Name_kw (ld_glob J hg hm ?_ hdb)
  refine PySem.W.callWith_K (h₀ := X.base) J.ok.mod.kin M.kp (thn (nA (h σ G H E w (fun vs H1 => ∀ a dx, H1 a = none → H1 dx = none → dx ≠ a → SpX X.K F (.ref a :: vs) (upd (upd H1 dx (.own a)) a (.ins C dx [])) (fun v H2 => v = .non ∧ Q (.ref a) H2) (L2.WE W σ)) (fun vs xs m1 G1 H1 g1 r1 hF => ?_)) pos pins s J) fun us s1 ⟨vs, H1, J1, r, hsp⟩ => ⟨J1.kIn, ?_⟩) he hpl
  · intro a dx ha hdx ne
    have gd := Gr.made (o := .own a) (v := .ho (.own a)) g1.wd hdx ⟨rfl, fun _ z => nomatch z⟩
    have ha' : upd H1 dx (.own a) a = none := by rw [upd_ne (Ne.symm ne)]; exact ha
    have ga := Gr.made (o := .ins C dx []) (v := .ho (.ins C dx [])) gd.wd ha' ⟨rfl, fun _ z => nomatch z⟩
    have gp : Gr X.K m (m1 ++ [(a, .ho (.ins C dx [])), (dx, .ho (.own a))]) G H G1 _ := ((g1.trans gd).trans ga).permute (List.perm_append_comm (l₁ := [(a, OV.ho (.ins C dx [])), (dx, .ho (.own a))]) (l₂ := m1))
    have out : ∀ b, H1 b = none → b ∉ ad m1 := fun b hb z => by
      obtain ⟨u, hu⟩ := of_ad z
      obtain ⟨_, o, z1, _⟩ := g1.wd.own _ hu
      have z1 : H1 b = some o := z1
      rw [hb] at z1; cases z1
    refine ⟨G1, _, _, _, _, gp.wd.sub, .cons (.raw _) r1, hF a dx (out a ha) (out dx hdx) ne, fun v d m' G' H' g2 r2 ⟨e1, p2⟩ => ?_, fun C y d v m' G' H' g2 z1 z2 p2 => ?_⟩
    · subst e1
      exact ⟨ds_non r2, q _ _ _ G' H' (gp.trans (Gr.frame gp.wd g2)) (.raw _) p2⟩
    · exact xo C y d v σ ds _ G' H' (gp.trans (Gr.frame gp.wd g2)) z1 z2 (E.mono (gp.trans (Gr.frame gp.wd g2)).g) p2
  · have hq := hsp (s1.heap.objs.size + 1) s1.heap.objs.size (J1.hok.fresh (Nat.le_succ _)) (J1.hok.fresh (Nat.le_refl _)) (Nat.ne_of_lt (Nat.lt_succ_self _))
    have J2 := Inv.made (C := C) J1
    have r' : Vals (V.ref (s1.heap.objs.size + 1) :: vs) (Value.ref (s1.heap.objs.size + 1) :: us) := .cons rfl r
    have hl : (Value.ref (s1.heap.objs.size + 1) :: us).length = ps.length := by rw [← r'.length]; exact FO.len _ _ _ _ hq
    have b0 := fun (t : Shared) (kt : X.K.In t.heap) => hb t (.ref (s1.heap.objs.size + 1) :: us) kt (by rw [List.append_nil]; exact hl)
    have hr2 : Rm k (X.A.under (.builtin "type.__call__" ⟨.ref C :: us, []⟩)) := ⟨hr.r.make C us [], hr.g⟩
    show wpAny _ _ (call (.ref C) us) _ _ _
    refine wpAny_call (make_map (f := f) J1.kIn M.makes M.init (beq_iff_eq.mp M.fn) (codeAny_mono (FO.go _ X.stack _ _ ⟨.ref (s1.heap.objs.size + 1) :: us, []⟩ _ _ _ _ hr2 (J2.env0.make C us []) (by
      have z := b0 _ J2.kIn
      rw [List.append_nil] at z
      exact z) r' hq) fun rr s' hq' => ?_))
    match rr, hq' with
    | .ok (.ret u), hq' =>
      obtain ⟨v, H', J3, rv, ev, q3⟩ := J2.after hq'
      subst ev
      exact ⟨rv, ⟨V.ref (s1.heap.objs.size + 1), H', J3, rfl, q3⟩⟩
    | .error e, hq' => exact passAt tk σ pins _ _ e s' J2 hq'
    | .ok .next, hq' => exact hq'.elim
    | .ok .brk, hq' => exact hq'.elim
    | .ok .cont, hq' => exact hq'.elim
end
end W9
namespace W9
open PySem PySem.Spec PyProof.Rows L2 LamX
/-! ### a function without parameters, called some frames below its maker -/
/-- what the maker X, standing at (H, s), had, is there still at (H0, s0), the frames o over it -/
structure Thru (X : Cx) (H : Hp) (s : Shared) (o : List Env) (H0 : Hp) (s0 : Shared) : Prop where
  un : Un (frs X.stack) [] H H0 s.heap s0.heap
  fs : ∀ b ∈ frs o, b ∈ frs X.stack ∨ s.heap.get? b = none
theorem Thru.refl {X : Cx} {H : Hp} {s : Shared} : Thru X H s X.stack H s := ⟨Un.refl, fun b h => .inl h⟩
section
variable {X Z : Cx} {H HZ : Hp} {s sZ : Shared} {pinsZ : List (Addr × Obj)} {σZ : L2.St}
theorem Thru.now (T : Thru X H s Z.outer Z.H_0 Z.s_0) (I : Inv Z pinsZ σZ HZ sZ) (ex : Z.ex = []) : Un (frs X.stack) [] H HZ s.heap sZ.heap := by
  have ub : Un Z.fs [] Z.H_0 HZ Z.s_0.heap sZ.heap := by
    have z := I.base
    rw [ex] at z
    exact z
  have nin : ∀ {b : Addr} {o : Obj}, s.heap.get? b = some o → b ∉ frs X.stack → b ∉ Z.fs := fun {b o} e nf z => by
    rcases T.fs b z with q | q
    · exact nf q
    · rw [q] at e; cases e
  refine ⟨fun b o e n nf _ => ?_, fun b o e n hf _ => ?_, fun b o e n _ => ?_, fun b o e _ => ?_, fun b xs e => ub.tups _ _ (T.un.tups _ _ e), fun b o u e => ub.frzs _ _ _ (T.un.frzs _ _ _ e), fun b ps e => ?_⟩
  · exact ub.keep b o (T.un.keep b o e n nf (by simp)) (T.un.free b o e n (by simp)) (nin e nf) (by simp)
  · obtain ⟨sl, e1⟩ := T.un.slot b o e n hf (by simp)
    obtain ⟨sl2, e2⟩ := ub.any e1 (T.un.free b o e n (by simp)) (by simp)
    exact ⟨sl2, e2⟩
  · obtain ⟨o', e'⟩ := T.un.there b o e (by simp)
    exact ub.free b o' e' (T.un.free b o e n (by simp)) (by simp)
  · obtain ⟨o', e'⟩ := T.un.there b o e (by simp)
    exact ub.there b o' e' (by simp)
  · obtain ⟨m1, e1⟩ := T.un.tbls b ps e
    obtain ⟨m2, e2⟩ := ub.tbls b _ e1
    exact ⟨m1 ++ m2, by rw [e2, Array.append_assoc]⟩
theorem Thru.next (T : Thru X H s Z.outer Z.H_0 Z.s_0) (I : Inv Z pinsZ σZ HZ sZ) (ex : Z.ex = []) : Thru X H s Z.stack HZ sZ := ⟨T.now I ex, fun b hb => by
  rcases List.mem_cons.mp (I.stkSub b hb) with e | hb
  · refine .inr ?_
    cases q : s.heap.get? b with
    | none => rfl
    | some o =>
      obtain ⟨o', e'⟩ := T.un.there b o q (by simp)
      have h1 := Heap.lt_size e'
      have h2 := I.ok.above
      rw [e] at h1
      exact absurd (Nat.lt_of_lt_of_le h1 h2) (Nat.lt_irrefl _)
  · exact T.fs b hb⟩
end
section
variable {X : Cx} {pins : List (Addr × Obj)} {σ : L2.St} {H : Hp} {s : Shared}
theorem pe_actT {CXg : CXT} {Eg : XK} {Ng : List Str} {qg : Str} {sg : Scope} {g : Addr} {cdg : Value} {AZ : Around} {oZ : List Env} {sZ0 : Shared} {HZ0 : Hp} {q : Str} {cl : List (Str × Addr)} {params : Arguments} {body : Expr} {scope : Scope} {k i : Nat} {a : Str} {pn : List (Addr × Obj)} {xe : Value → Shared → Prop} {W : WX} {tb : XK → TE} {p1 p2 : Pos}
    (I : Inv X pins σ H s) (th : Thru X H s oZ HZ0 sZ0) (L : LamS X.env.scope scope) (hq : q = X.env.qual ++ "<lambda>") (hcl : cl = cloFrom X.env.cells scope.names []) (hbind : ∀ (pm cv ctv : Value), bindArgs (PySem.W.kla_fn "<lambda>" q params body scope cl pm cv ctv) ⟨[], []⟩ = pure [])
    (tk : Takes ((cxOf CXg X.prog X.w X.K X.mg X.base Ng qg sg g cdg AZ oZ sZ0 HZ0 Eg).tr pn xe) W) (hr : Rm (k + 1) (AZ.deeper (envOfC qg sg sZ0.heap.objs.size g cdg)))
    (hbody : ∀ (A : Around) (outer : List Env) (s : Shared) (H : Hp) (E : XK) (f c' : Addr), Rm k (A.deeper (lamEnv X scope s.heap.objs.size f c')) → PE (lamCx X A outer s H E scope f c') body (tb E))
    (hN : Ng[i]? = some a) (hv : Vis sg a) (hd : (a == ("__debug__" : Str)) = false := by decide) (hcd : (a == ("__classdict__" : Str)) = false := by decide) :
    PE ((cxOf CXg X.prog X.w X.K X.mg X.base Ng qg sg g cdg AZ oZ sZ0 HZ0 Eg).tr pn xe) (.Call (.Name a p1) [] [] p2)
      (fun σZ HZ Q => ∃ f c' pm ctv, σZ[i]? = some (some (.ref f)) ∧ HZ f = some (FnO f q params body scope cl pm c' ctv) ∧ HZ c' = some (CodeO c' q) ∧ tb (L2.WE W σZ) σ HZ Q) := by
  subst hq hcl
  constructor
  rintro pinsZ sZ σZ HZ Q IZ ⟨f, c', pm, ctv, hs, hf, hc, ht⟩
  refine wpAny_Call_Name_kw (thn ((pe_var (pos := p1) (i := i) hN hv hd hcd).run pinsZ sZ σZ HZ (fun v H1 => v = .ref f ∧ H1 = HZ) IZ ⟨.ref f, hs, rfl, rfl⟩) ?_)
  rintro u s1 ⟨v, H1, I1, r1, rfl, rfl⟩
  obtain rfl : u = Value.ref f := r1
  obtain ⟨of1, _, _⟩ := I1.hok f _ hf
  obtain ⟨⟨oc, vs, t, hoc, hdc, hvc⟩, _, _⟩ := I1.hok c' _ hc
  have un : Un (frs X.stack) [] H H1 s.heap s1.heap := Thru.now (Z := (cxOf CXg X.prog X.w X.K X.mg X.base Ng qg sg g cdg AZ oZ sZ0 HZ0 Eg).tr pn xe) th I1 rfl
  refine PySem.W.callWith_F0 ⟨_, _, _, _, of1⟩ (wpAny_call (codeAny_mono (R := CR (L2.CX X.prog X.w) (envOfC qg sg sZ0.heap.objs.size g cdg :: oZ) X.prog X.w H1 s1 Q (L2.WE W σZ)) ?_ fun r s' hq => ?_))
  · refine PySem.W.kla_callFunE hr.r.depth of1 rfl L.co L.gen rfl ⟨c', oc, vs, t, rfl, hoc, hdc, hvc⟩ ?_
    show wpAny _ _ (bindArgs (PySem.W.kla_fn "<lambda>" (X.env.qual ++ "<lambda>") params body scope (cloFrom X.env.cells scope.names []) pm (.ref c') ctv) ⟨[], []⟩) _ _ _
    rw [hbind]
    refine wpAny_pure (wpAny_newFunctionEnv (fun y hy => (L.own y hy).2) (fun y hy => absurd hy (by simp)) (fun h₁ hns hsb => ⟨I1.nolimit.fresh _ hsb, ?_⟩) L.kind)
    have kp : ∀ b o, s1.heap.get? b = some o → h₁.get? b = some o := fun b o e => hsb.extBut b o (Nat.ne_of_lt (Heap.lt_size e)) (Heap.get?_push_of_some _ e)
    have J := lam_start2 (A := AZ.deeper (envOfC qg sg sZ0.heap.objs.size g cdg)) (outer := envOfC qg sg sZ0.heap.objs.size g cdg :: oZ) (E := L2.WE W σZ) (f := f) (c' := c') (tk := s1.toks + ([] : List (Str × Value)).length) I L I1.env0 hr.r.hd un hns kp
    refine PySem.W.kla_codeExpr (wpAny_mono ((hbody _ _ s1 H1 _ f c' ⟨hr.r.deeper _, hr.g⟩).run [] _ _ H1 Q J ht) ?_ fun e s' z => z)
    rintro v s' ⟨w', H', J', rv, q⟩
    exact ⟨w', H', J'.os, J'.bare, J'.base, J'.hok, rv, q⟩
  · match r, hq with
    | .error e, hq => exact passAt tk σZ pinsZ H1 s1 e s' I1 hq
    | .ok (.ret u), hq => exact I1.after hq
    | .ok .next, hq => exact hq.elim
    | .ok .brk, hq => exact hq.elim
    | .ok .cont, hq => exact hq.elim
end
/-- def _law_heard(call) -/
def heardB (p1 p2 p3 p4 p5 p6 p7 p8 p9 p10 p11 p12 p13 p14 p15 p16 p17 p18 p19 p20 p21 : Pos) : List Stmt := [.Assign [.Tuple [.Name "caught" p1, .Name "back" p2] 0 p3] (.Tuple [.Constant .none 0 p4, .Constant .none 0 p5] 0 p6) p7,
  .Try [.Assign [.Name "back" p8] (.Call (.Name "call" p9) [] [] p10) p11] [.ExceptHandler (some (.Name "ToldError" p12)) (some "error") [.Assign [.Name "caught" p13] (.Name "error" p14) p15] p16] [] [] p17,
  .Return (some (.Tuple [.Name "caught" p18, .Name "back" p19] 0 p20)) p21]
def heardN : List Str := ["call", "caught", "back", "error"]
def heardSc : Scope := { kind := .function, names := [(PySem.Str.ofString "call", .local), (PySem.Str.ofString "caught", .local), (PySem.Str.ofString "back", .local), (PySem.Str.ofString "error", .local), (PySem.Str.ofString "ToldError", .globalImplicit)], isGenerator := false, isCoroutine := false, more := [] }
theorem sc_heard : FnScope heardN ["call"] heardSc := ⟨rfl, rfl, rfl, by decide +kernel, rfl, by decide +kernel, by decide +kernel⟩
theorem nd_heard : heardN.Nodup := by decide +kernel
section
variable {X : Cx} {pins : List (Addr × Obj)} {σ : L2.St} {H : Hp} {s : Shared} {dsX ds : DE} {m : MS}
/-- _law_heard(call), in a def that got the function call; X: its maker -/
theorem we_heard {CXy : CXT} {Ey : XK} {Ny : List Str} {qy : Str} {sy : Scope} {gy : Addr} {cdy : Value} {AY : Around} {oY : List Env} {sY0 : Shared} {HY0 : Hp} {D g : Addr} {st : Stmt} {fd : FuncData} {k i : Nat} {q : Str} {params : Arguments} {body : Expr} {scope : Scope} {cl : List (Str × Addr)} {pos p pc : Pos} {a : Str}
    {p1 p2 p3 p4 p5 p6 p7 p8 p9 p10 p11 p12 p13 p14 p15 p16 p17 p18 p19 p20 p21 : Pos} {P : SD → MS → Prop} {P' : SD → MS → Prop} {R' : RF}
    (I : Inv X pins σ H s) (th : Thru X H s oY HY0 sY0) (F : Fun X.K "_law_heard" "_law_heard" st g fd) (hst : defBody st = heardB p1 p2 p3 p4 p5 p6 p7 p8 p9 p10 p11 p12 p13 p14 p15 p16 p17 p18 p19 p20 p21) (hsc : defScope st = heardSc) (hm : X.mg "_law_heard" = some (.ref g)) (hD : X.mg "ToldError" = some (.ref D))
    (hb : L2.Binds X.K fd ["call"] []) (hr : Rm (k + 2) (AY.deeper (envOfC qy sy sY0.heap.objs.size gy cdy)))
    (L : LamS X.env.scope scope) (hq : q = X.env.qual ++ "<lambda>") (hcl : cl = cloFrom X.env.cells scope.names []) (hbind : ∀ (pm cv ctv : Value), bindArgs (PySem.W.kla_fn "<lambda>" q params body scope cl pm cv ctv) ⟨[], []⟩ = pure [])
    (hd : ds[i]? = some (some (FnE X.K q params body scope cl σ dsX)))
    (hbody : ∀ A outer s H E f c', Rm k (A.deeper (lamEnv X scope s.heap.objs.size f c')) → XEx (lamCx X A outer s H E scope f c') body dsX m P' fun C y _ m2 => R' C y m2)
    (hP : ∀ d m2, P' d m2 → P (TpS X.K [N0, d]) m2) (hR : ∀ C y m2, R' C y m2 → PySem.W.exmOne X.K (.ref C) (.ref D) = some true ∧ P (TpS X.K [ErS X.K C y, N0]) m2)
    (hsw : ∀ (n : Nat) (cdv : Value), swappedStores [.Tuple [.Name "caught" p1, .Name "back" p2] 0 p3] (.Tuple [.Constant .none 0 p4, .Constant .none 0 p5] 0 p6) (envOfC "_law_heard" heardSc n g cdv) = pure none)
    (hN : Ny[i]? = some a) (hv : Vis sy a) (hg : Gl (cxOf CXy X.prog X.w X.K X.mg X.base Ny qy sy gy cdy AY oY sY0 HY0 Ey).nox "_law_heard" := by rfl)
    (hs : starEach [.Name a pc] (cxOf CXy X.prog X.w X.K X.mg X.base Ny qy sy gy cdy AY oY sY0 HY0 Ey).nox.env = (false, eval (.Name a pc) (cxOf CXy X.prog X.w X.K X.mg X.base Ny qy sy gy cdy AY oY sY0 HY0 Ey).nox.env) :: starEach [] (cxOf CXy X.prog X.w X.K X.mg X.base Ny qy sy gy cdy AY oY sY0 HY0 Ey).nox.env := by rfl)
    (hdb : (a == ("__debug__" : Str)) = false := by decide) (hcd : (a == ("__classdict__" : Str)) = false := by decide) :
    WE (cxOf CXy X.prog X.w X.K X.mg X.base Ny qy sy gy cdy AY oY sY0 HY0 Ey).nox (.Call (.Name "_law_heard" p) [.Name a pc] [] pos) ds m P := fun σY G H0 E0 w Q k0 => by
  intro pinsY sY IY
  obtain ⟨oc, od, kV, doc, pm, an, cdv, ct, osl, rfl, lk, hcd2⟩ := F.ex
  refine wpAny_Call_Name_kw (ld_glob IY hg hm ?_)
  refine PySem.W.callWith_K (h₀ := X.base) IY.ok.mod.kin F.kp ?_ hs (by rfl)
  rw [hs]
  show wpAny _ _ (spliced ((false, eval (.Name a pc) _) :: backTo pos (starEach [] _))) _ _ sY
  have ev : EE (cxOf CXy X.prog X.w X.K X.mg X.base Ny qy sy gy cdy AY oY sY0 HY0 Ey).nox (.Name a pc) ds (FnE X.K q params body scope cl σ dsX) := ee_var hd hN hv hdb hcd
  refine Calls.spliced_cons (thn (ev m σY G H0 E0 w (fun v H1 => ∃ G1, Gr X.K m m G H0 G1 H1 ∧ DS X.K G1 v (FnE X.K q params body scope cl σ dsX)) (fun v d m1 G1 H1 g1 r1 ⟨e1, e2⟩ => by subst e1 e2; exact ⟨G1, g1, r1⟩) pinsY sY IY) ?_)
  rintro u s1 ⟨v, H1, I1, rv, G1, g1, rE⟩
  refine Calls.spliced_nil ⟨I1.kIn, ?_⟩
  have E1 := E0.mono g1.g
  have th1 : Thru X H s (cxOf CXy X.prog X.w X.K X.mg X.base Ny qy sy gy cdy AY oY sY0 HY0 Ey).nox.stack H1 s1 := Thru.next (Z := (cxOf CXy X.prog X.w X.K X.mg X.base Ny qy sy gy cdy AY oY sY0 HY0 Ey).nox) th I1 rfl
  have rc : codeAny (model X.prog X.w) (cxOf CXy X.prog X.w X.K X.mg X.base Ny qy sy gy cdy AY oY sY0 HY0 Ey).nox.A (.call (.ref g) ⟨[u], []⟩) (CR CX0 (cxOf CXy X.prog X.w X.K X.mg X.base Ny qy sy gy cdy AY oY sY0 HY0 Ey).nox.stack X.prog X.w H1 s1 Q L2.E0) s1 := by
    refine run_ofS (N := heardN) (ps := ["call"]) (us := [u]) (vs := [v]) (k := k + 1) lk hcd2 (by rw [hsc]; exact sc_heard) (hr.r.mono (Nat.le_refl _)) I1.env0 (hb s1 [u] I1.kIn rfl) (.cons rv .nil) rfl fun hr' => ?_
    rw [hst, hsc]
    rw [hsc] at hr'
    refine ⟨_, (pSs _).nox, ?_⟩
    refine (show WSs (cxOf CX0 X.prog X.w X.K X.mg X.base heardN "_law_heard" heardSc g cdv (cxOf CXy X.prog X.w X.K X.mg X.base Ny qy sy gy cdy AY oY sY0 HY0 Ey).nox.A (cxOf CXy X.prog X.w X.K X.mg X.base Ny qy sy gy cdy AY oY sY0 HY0 Ey).nox.stack s1 H1 L2.E0).nox (heardB p1 p2 p3 p4 p5 p6 p7 p8 p9 p10 p11 p12 p13 p14 p15 p16 p17 p18 p19 p20 p21) (startD heardN [FnE X.K q params body scope cl σ dsX]) m { nx := fun _ _ => False, rt := P } from ?_) (L2.start heardN [v]) G1 H1 (env_start (.cons rE .nil)) g1.wd _
      ⟨fun _ _ _ _ _ _ _ z => z.elim, fun v d m' G' H' g' r' p' => k0 v d m' G' H' (g1.trans g') r' p', fun _ _ _ _ _ _ _ z => z.elim, fun _ _ _ _ _ _ _ z => z.elim⟩
    refine wss_cons (ws_asg ((ee_tup (eap_cons ee_non (eap_cons ee_non eap_nil))).to (wg_tup (wgs_cons (wg_name (i := 1) (wgs_cons (wg_name (i := 2) (wgs_nil ?_) nd_heard)) nd_heard)))) (hw := hsw _ _))
    refine wss_cons (ws_try (i := 3) (R := fun C y ds' m2 => ds' = ((startD heardN [FnE X.K q params body scope cl σ dsX]).set 1 (some N0)).set 2 (some N0) ∧ R' C y m2) ⟨by rfl, by decide, .inl hD⟩ nd_heard rfl (fun pn xe hp => xss_one (xs_set (i := 2) nd_heard ?_)) fun C y ds' m' ⟨e1, r⟩ => ⟨(hR C y m' r).1, fun a pn => ?_⟩)
    · intro W tk σZ GZ HZ EZ wZ xo Qz kz
      refine oE (pe_actT (CXg := CX0) (Eg := L2.E0) (Ng := heardN) (i := 0) (tb := fun E σ H Q => ∀ A outer s H0 f c', Rm k (A.deeper (lamEnv X scope s.heap.objs.size f c')) → wE (lamCx X A outer s H0 E scope f c') body σ H Q) I th1 L hq hcl hbind tk ⟨hr', hr.g⟩ (fun A outer s H E f c' r => ⟨fun pins s' σ' H' Q' J h => h A outer s H f c' r pins s' J⟩) rfl (.inl rfl)) ?_
      obtain ⟨vz, hz, dz⟩ := EZ.2 0 _ rfl
      obtain ⟨⟨f, c', pm, ctv, rfl, hf, hc⟩, EM⟩ := ds_ob dz
      refine ⟨f, c', pm, ctv, hz, wZ.w _ _ hf, wZ.w _ _ hc, fun A outer s H0 f c' r => ?_⟩
      refine hbody A outer s H0 _ f c' r (fun cls d _ H => (L2.WE W σZ) cls d H) (takes_of rfl rfl rfl rfl) σ GZ HZ EM wZ (fun C y d v' _ _ m' G' H' g' h1 h2 _ r => xo C y d v' σZ _ m' G' H' g' h1 h2 (EZ.mono g'.g) ⟨rfl, r⟩) Qz fun v' d m' G' H' g' r' p' => kz v' d m' G' H' g' r' ?_
      exact wss_one (ws_ret (we_tupS (EA.to (ea_cons (ee_var (i := 1) rfl rfl) (ea_cons (ee_var (i := 2) rfl rfl) ea_nil)) ⟨(by show 2 ≤ 1000000; decide), hP d m' p'⟩)))
    · subst e1
      refine wss_one (ws_set (i := 1) nd_heard ((ee_var (i := 3) rfl rfl).to ?_))
      exact wss_one (ws_ret (we_tupS (EA.to (ea_cons (ee_var (i := 1) rfl rfl) (ea_cons (ee_var (i := 2) rfl rfl) ea_nil)) ⟨(by show 2 ≤ 1000000; decide), (hR C y m' r).2⟩)))
  refine wpAny_call (codeAny_mono rc fun r s2 hq => ?_)
  match r, hq with
  | .error e, hq => exact hq.elim
  | .ok (.ret u), hq => exact I1.after hq
  | .ok .next, hq => exact hq.elim
  | .ok .brk, hq => exact hq.elim
  | .ok .cont, hq => exact hq.elim
end
end W9
namespace W9
open PySem PySem.Spec PyProof.Rows L2 LamX
/-- what the rest of _law_is_raised answers: cg is what was caught -/
def RestOk (X : Cx) (N : List Str) (st : Stmt) (g : Addr) (rest : List Stmt) (k : Nat) (due cg : SD) (m : MS) (P : SD → MS → Prop) : Prop :=
  ∀ (cdv : Value) (A : Around) (outer : List Env) (s : Shared) (H : Hp) (fE : SD), Rm k (cxOf CX0 X.prog X.w X.K X.mg X.base N "_law_is_raised" (defScope st) g cdv A outer s H L2.E0).nox.A →
    WSs (cxOf CX0 X.prog X.w X.K X.mg X.base N "_law_is_raised" (defScope st) g cdv A outer s H L2.E0).nox rest ((startD N [fE, due]).set 2 (some cg)) m { nx := fun _ _ => False, rt := P }
section
variable {X : Cx} {ds : DE} {m : MS}
/-- _law_is_raised(e, e2), e a function without parameters -/
theorem we_raised {N : List Str} {D g gh : Addr} {e e2 : Expr} {st stH : Stmt} {fd fdH : FuncData} {rest : List Stmt} {k : Nat} {q : Str} {params : Arguments} {body : Expr} {scope : Scope} {cl : List (Str × Addr)} {pos p : Pos} {j : Int} {j2 : Nat} {q1 q2 q3 q4 q5 q6 q7 : Pos}
    {p1 p2 p3 p4 p5 p6 p7 p8 p9 p10 p11 p12 p13 p14 p15 p16 p17 p18 p19 p20 p21 : Pos} {P : SD → MS → Prop} {P' : SD → MS → Prop} {R' : RF}
    (F : Fun X.K "_law_is_raised" "_law_is_raised" st g fd) (hst : defBody st = .Assign [.Name "caught" q1] (.Subscript (.Call (.Name "_law_heard" q2) [.Name "call" q3] [] q4) (.Constant (.int 0) j2 q5) q6) q7 :: rest) (S : FnScope N ["call", "due"] (defScope st)) (hm : X.mg "_law_is_raised" = some (.ref g)) (hb : L2.Binds X.K fd ["call", "due"] [])
    (hN0 : N[0]? = some (PySem.Str.ofString "call")) (hN2 : N[2]? = some (PySem.Str.ofString "caught")) (hl0 : (defScope st).names.lookup ("call" : Str) = some .local) (hl2 : (defScope st).names.lookup ("caught" : Str) = some .local) (hlg : (defScope st).names.lookup ("_law_heard" : Str) = some .globalImplicit) (hlen : N.length = 5)
    (FH : Fun X.K "_law_heard" "_law_heard" stH gh fdH) (hstH : defBody stH = heardB p1 p2 p3 p4 p5 p6 p7 p8 p9 p10 p11 p12 p13 p14 p15 p16 p17 p18 p19 p20 p21) (hscH : defScope stH = heardSc) (hmH : X.mg "_law_heard" = some (.ref gh)) (hD : X.mg "ToldError" = some (.ref D))
    (hbH : L2.Binds X.K fdH ["call"] []) (hsw : ∀ (n : Nat) (cdv : Value), swappedStores [.Tuple [.Name "caught" p1, .Name "back" p2] 0 p3] (.Tuple [.Constant .none 0 p4, .Constant .none 0 p5] 0 p6) (envOfC "_law_heard" heardSc n gh cdv) = pure none)
    (hr : Rm (k + 3) X.A) (L : LamS X.env.scope scope) (hq : q = X.env.qual ++ "<lambda>") (hcl : cl = cloFrom X.env.cells scope.names []) (hbind : ∀ (pm cv ctv : Value), bindArgs (PySem.W.kla_fn "<lambda>" q params body scope cl pm cv ctv) ⟨[], []⟩ = pure [])
    (he : WA X [e, e2] ds m fun xs m1 => ∃ due, xs = [FnS q params body scope cl, due] ∧ (∀ A outer s H E f c', Rm k (A.deeper (lamEnv X scope s.heap.objs.size f c')) → XEx (lamCx X A outer s H E scope f c') body ds m1 P' fun C y _ m2 => R' C y m2) ∧
      (∀ d m2, P' d m2 → RestOk X N st g rest (k + 2) due N0 m2 P) ∧ ∀ C y m2, R' C y m2 → PySem.W.exmOne X.K (.ref C) (.ref D) = some true ∧ RestOk X N st g rest (k + 2) due (ErS X.K C y) m2 P)
    (hg : Gl X "_law_is_raised" := by rfl) (hs : starEach [e, e2] X.env = (false, eval e X.env) :: starEach [e2] X.env := by rfl) (hpl : (backTo pos (starEach [e2] X.env)).any (·.1) = false := by rfl) : WE X (.Call (.Name "_law_is_raised" p) [e, e2] [] pos) ds m P := fun σ G H E0 w Q k0 => by
  intro pins s I
  obtain ⟨oc, od, kV, doc, pm, an, cdv, ct, osl, rfl, lk, hcd⟩ := F.ex
  refine wpAny_Call_Name_kw (ld_glob I hg hm ?_)
  refine PySem.W.callWith_K (h₀ := X.base) I.ok.mod.kin F.kp (thn (he σ G H E0 w (fun vs H1 => ∃ m1 G1 due, Gr X.K m m1 G H G1 H1 ∧ DSs X.K G1 vs [FnS q params body scope cl, due] ∧ (∀ A outer s H E f c', Rm k (A.deeper (lamEnv X scope s.heap.objs.size f c')) → XEx (lamCx X A outer s H E scope f c') body ds m1 P' fun C y _ m2 => R' C y m2) ∧
      (∀ d m2, P' d m2 → RestOk X N st g rest (k + 2) due N0 m2 P) ∧ ∀ C y m2, R' C y m2 → PySem.W.exmOne X.K (.ref C) (.ref D) = some true ∧ RestOk X N st g rest (k + 2) due (ErS X.K C y) m2 P)
      (fun vs xs m1 G1 H1 g1 r1 ⟨due, e1, e2, e3, e4⟩ => ⟨m1, G1, due, g1, by rw [← e1]; exact r1, e2, e3, e4⟩) pos pins s I) ?_) hs hpl
  rintro us s1 ⟨vs, H1, I1, rv, m1, G1, due, g1, r1, hbody, hP, hR⟩
  refine ⟨I1.kIn, ?_⟩
  have E1 := E0.mono g1.g
  cases r1 with
  | @cons v vs _ _ rf r1 => cases r1 with
    | @cons v2 vs _ _ rdue r1 =>
      cases r1
      obtain ⟨u, u2, rfl, ru, ru2⟩ := vals2 rv
      have rE : DS X.K G1 v (FnE X.K q params body scope cl σ ds) := .ob ⟨ds_ob rf, E1⟩ fun G' x => ⟨by
        obtain ⟨f, c', pm, ctv, e1, e2, e3⟩ := ds_ob rf
        exact ⟨f, c', pm, ctv, e1, x _ _ e2, x _ _ e3⟩, E1.mono x⟩
      have rc : codeAny (model X.prog X.w) X.A (.call (.ref g) ⟨[u, u2], []⟩) (CR CX0 X.stack X.prog X.w H1 s1 Q L2.E0) s1 := by
        refine run_ofS (N := N) (ps := ["call", "due"]) (us := [u, u2]) (vs := [v, v2]) (k := k + 2) lk hcd S (hr.r.mono (Nat.le_refl _)) I1.env0 (hb s1 [u, u2] I1.kIn rfl) rv rfl fun hr' => ?_
        rw [hst]
        refine ⟨_, (pSs _).nox, ?_⟩
        refine (show WSs (cxOf CX0 X.prog X.w X.K X.mg X.base N "_law_is_raised" (defScope st) g cdv X.A X.stack s1 H1 L2.E0).nox (.Assign [.Name "caught" q1] (.Subscript (.Call (.Name "_law_heard" q2) [.Name "call" q3] [] q4) (.Constant (.int 0) j2 q5) q6) q7 :: rest) (startD N [FnE X.K q params body scope cl σ ds, due]) m1 { nx := fun _ _ => False, rt := P } from ?_) (L2.start N [v, v2]) G1 H1 (env_start (.cons rE (.cons rdue .nil))) g1.wd _
          ⟨fun _ _ _ _ _ _ _ z => z.elim, fun v d m' G' H' g' r' p' => k0 v d m' G' H' (g1.trans g') r' p', fun _ _ _ _ _ _ _ z => z.elim, fun _ _ _ _ _ _ _ z => z.elim⟩
        refine wss_cons (ws_set (i := 2) S.nd (we_sub ?_) hN2 (Or.inl hl2))
        refine we_heard (i := 0) (CXy := CX0) (Ey := L2.E0) I1 Thru.refl FH hstH hscH hmH hD hbH ⟨hr', hr.g⟩ L hq hcl hbind rfl hbody (fun d m2 p => ?_) (fun C y m2 r => ⟨(hR C y m2 r).1, ?_⟩) hsw hN0 (.inl hl0) (by exact hlg)
        · exact ee_int.to ⟨N0, sub_tupS (Int.le_refl 0) rfl, hP d m2 p cdv _ _ _ _ _ ⟨hr', hr.g⟩⟩
        · exact ee_int.to ⟨ErS X.K C y, sub_tupS (Int.le_refl 0) rfl, (hR C y m2 r).2 cdv _ _ _ _ _ ⟨hr', hr.g⟩⟩
      refine wpAny_call (codeAny_mono rc fun r s2 hq => ?_)
      match r, hq with
      | .error e, hq => exact hq.elim
      | .ok (.ret u), hq => exact I1.after hq
      | .ok .next, hq => exact hq.elim
      | .ok .brk, hq => exact hq.elim
      | .ok .cont, hq => exact hq.elim
end
end W9
namespace W9
open PySem PySem.Spec PyProof.Rows L2 LamX
/-! ### the law's call from the top, with tables of code objects -/
section
variable {P : Program} {w : World} {K : PySem.W.Frag} {mg mb : Str → Option Value}
abbrev tObj (ps : Array Value) : Obj := { cls := .none, data := .fields ps }
/-- code object, its table, the name of what it makes -/
abbrev TabL := List (Addr × Addr × Str)
def tAd (cs : TabL) : List Addr := cs.map (·.2.1)
def tMS (cs : TabL) : MS := cs.map fun p => (p.2.1, .tab p.2.2)
theorem ad_tMS (cs : TabL) : ad (tMS cs) = tAd cs := by unfold ad tMS tAd; rw [List.map_map]; rfl
def topH (K : PySem.W.Frag) (cs : TabL) (a : Addr) (O : Obj) (ns : List Int) : Hp := fun b => if b ∈ tAd cs then some (.tbl #[]) else scriptH K a O ns b
theorem topH_tab {cs : TabL} {a b : Addr} {O : Obj} {ns : List Int} (h : b ∈ tAd cs) : topH K cs a O ns b = some (.tbl #[]) := if_pos h
theorem topH_out {cs : TabL} {a b : Addr} {O : Obj} {ns : List Int} (h : b ∉ tAd cs) : topH K cs a O ns b = scriptH K a O ns b := if_neg h
theorem top_callT {k : Nat} {fa a : Addr} {fd : FuncData} {x : Str} {F : FT} {s : Shared} {vs : List Value} {ns : List Int} {cs : TabL}
    (kin : K.In s.heap) (nsm : s.heap.Ns mainGlobals mg) (nsb : s.heap.Ns builtinsNs mb) (boot : ∀ x : Str, x ≠ "__name__" → mb x = bootBuiltins x) (lim : s.heap.NoLimit) (ge : s.gens = #[])
    (tabs : ∀ p ∈ cs, PySem.W.CodeHd s.heap p.1 p.2.1 ∧ s.heap.get? p.2.1 = some (tObj #[])) (tK : ∀ p ∈ cs, K.lookup p.2.1 = none) (tnd : (tAd cs).Nodup)
    (bmain : ∃ (bm : Addr) (ob : Obj), mg "__builtins__" = some (.ref bm) ∧ bm ≠ builtinsNs ∧ s.heap.get? bm = some ob ∧ ob.cls = .type "module" ∧ ob.dict = some builtinsNs ∧ ob.data = .plain)
    (obj : s.heap.get? a = some { cls := .type "list", data := .seq vs.toArray }) (hin : IntsAre vs ns) (small : ns.length ≤ sizeLine) (rm : Rm k callerA)
    (fn : ∀ base : Heap, K.In base → base.Ns mainGlobals mg → (∀ p ∈ cs, TabB base mg p.1 p.2.1) → FnG P w K mg base CX0 k fa fd [x] (SpD K F)) (bd : ∀ (s : Shared) (u : Value), BindsTo s fd ⟨[u], []⟩ [(x, u)])
    (due : F [Ls (ns.map .int)] (tMS cs) fun d _ => d = B true) :
    codeAny (model P w) callerA (.call (.ref fa) ⟨[.ref a], []⟩) (fun r s' => r = .ok (.ret (.bool true)) ∧ OldK s.heap s'.heap ∧ s'.os = s.os ∧ AllBare s'.gens) s := by
  let O : Obj := { cls := .type "list", data := .seq vs.toArray }
  let H : Hp := topH K cs a O ns
  let G : Hp := scriptH K a O ns
  have vals : Vals (ns.map V.int) vs := vals_ints hin
  have isT : ∀ {b : Addr}, b ∈ tAd cs → s.heap.get? b = some (tObj #[]) := fun {b} hb => by
    obtain ⟨p, hp, rfl⟩ := List.mem_map.mp hb
    exact (tabs p hp).2
  have aT : a ∉ tAd cs := fun z => by
    have q := isT z
    rw [obj] at q
    cases q
  have unt : ∀ {b : Addr} {o : Obj}, s.heap.get? b = some o → (∀ t n, o.data ≠ .seq t n) → o.data ≠ .fields #[] → H b = none := fun {b o} e hd hf => by
    by_cases z : b ∈ tAd cs
    · have q := isT z
      rw [e] at q
      cases q
      exact absurd rfl hf
    · refine (topH_out z).trans ?_
      by_cases z : b = a
      · subst z
        rw [obj] at e
        cases e
        exact absurd rfl (hd vs.toArray _)
      · exact scriptH_ne z
  have lift : ∀ {b : Addr} {m : Str → Option Value}, s.heap.Ns b m → (hidT s.heap H).Ns b m := fun {b m} ⟨o, es, ep, e, d, r⟩ =>
    ⟨o, es, ep, hidT_get e (unt e (fun t n z => by rw [d] at z; cases z) fun z => by rw [d] at z; cases z), d, r⟩
  have kinH : K.In (hidT s.heap H) := fun b o e => hidT_get (kin b o e) (by
    have nb : b ∉ tAd cs := fun z => by
      obtain ⟨p, hp, rfl⟩ := List.mem_map.mp z
      have z : K.lookup p.2.1 = some o := e
      rw [tK p hp] at z; cases z
    refine (topH_out nb).trans ?_
    by_cases z : b = a
    · subst z; exact scriptH_K e b
    · exact scriptH_ne z)
  have exG : Ex G H := fun b o e => by
    refine (topH_out fun z => ?_).trans e
    obtain ⟨rfl, _, _⟩ := scriptH_some e
    exact aT z
  have seq : SqL K G a (ns.map V.int) := by
    cases q : K.lookup a with
    | none => exact .inl (.inr ⟨O, if_pos ⟨rfl, q⟩⟩)
    | some o =>
      have e := kin a o q
      rw [obj] at e
      cases e
      exact .inr ⟨O, vs.toArray, _, q, rfl, rfl, rfl, by rw [List.size_toArray, hin.length]; exact small, by rw [List.toList_toArray]; exact vals⟩
  have hok : HOk P w H s.heap := fun b u e => by
    by_cases z : b ∈ tAd cs
    · have e : topH K cs a O ns b = some u := e
      rw [topH_tab z] at e
      cases e
      exact isT z
    · have e : topH K cs a O ns b = some u := e
      rw [topH_out z] at e
      obtain ⟨rfl, _, rfl⟩ := scriptH_some e
      exact ⟨obj, by rw [List.length_map]; exact small, vs, _, vals, obj⟩
  have md : Mod K mg (hidT s.heap H) := ⟨kinH, lift nsm, ⟨mb, lift nsb, boot⟩, let ⟨mc, h1, h2⟩ := lim; ⟨mc, lift h1, h2⟩⟩
  have tb : ∀ p ∈ cs, TabB (hidT s.heap H) mg p.1 p.2.1 := fun p hp => by
    obtain ⟨hc, hT⟩ := tabs p hp
    refine ⟨?_, ?_, fun z => ?_⟩
    · obtain ⟨o, us, file, tf, flags, tg, inF, text, tt, e1, c1, c2, c3, c4, c5, c6, c7, c8, cn⟩ := hc
      exact ⟨o, us, file, tf, flags, tg, inF, text, tt, hidT_get e1 (unt e1 (fun vs n z => by rw [c2] at z; cases z) fun z => by rw [c2] at z; cases z; simp at c3), c1, c2, c3, c4, c5, c6, c7, c8, cn⟩
    · obtain ⟨bm, ob, b1, b2, b3, b4, b5, b6⟩ := bmain
      refine ⟨bm, ob, b1, b2, fun q => ?_, fun q => ?_, hidT_get b3 (unt b3 (fun vs n z => by rw [b6] at z; cases z) fun z => by rw [b6] at z; cases z), b4, b5, b6⟩
      · obtain ⟨o, es, ep, e, hd, _⟩ := nsm
        rw [q, e] at b3
        cases b3
        rw [hd] at b6; cases b6
      · rw [q, hT] at b3
        cases b3
        cases b6
    · obtain ⟨o, es, ep, e, hd, _⟩ := nsm
      rw [z, hT] at e
      cases e
      cases hd
  have env : Env0 P w K mg (hidT s.heap H) callerA [] s H := ⟨rfl, md, fun b o e => of_hidT e, Nat.le_of_eq (hidT_size _ _), trivial, fun b hb => absurd (show b ∈ ([] : List Addr) from hb) (by simp), hok, .of_eq ge⟩
  have wd : Wd K (tMS cs) G H := ⟨exG, fun p hp => by
    obtain ⟨q, hq, rfl⟩ := List.mem_map.mp hp
    have hm : q.2.1 ∈ tAd cs := List.mem_map_of_mem hq
    refine ⟨scriptH_ne fun z => aT (by rw [← z]; exact hm), .tbl #[], topH_tab hm, #[], rfl, True.intro, fun pos cv z => ?_⟩
    have z : codeAmong pos [] = some cv := z
    simp [codeAmong] at z, by rw [ad_tMS]; exact tnd⟩
  have sp : SpD K F [.ref a] H (fun v _ => v = .bl true) fun _ _ _ => False :=
    ⟨G, tMS cs, [Ls (ns.map .int)], _, wd, .cons (.py (.lst seq (dpa_of_ints ns))) .nil, due, fun v d m' G' H' g r e => by subst e; exact ds_bl r⟩
  refine codeAny_mono ((fn _ kinH (lift nsm) tb).go callerA [] s H ⟨[.ref a], []⟩ [.ref a] [.ref a] _ _ rm env (bd s (.ref a)) (.cons rfl .nil) sp) fun r s' h => ?_
  match r, h with
  | .error e, h => exact h.elim
  | .ok .next, h => exact h.elim
  | .ok .brk, h => exact h.elim
  | .ok .cont, h => exact h.elim
  | .ok (.ret u), ⟨v, H', os, bare, un, hok', r', q⟩ =>
    have q' : v = .bl true := q
    subst q'
    have eu : u = Value.bool true := r'
    subst eu
    have stays : ∀ b o, b ∉ tAd cs → s.heap.get? b = some o → s'.heap.get? b = some o := fun b o nb e => by
      cases z : H b with
      | none => exact un.keep b o e z (fun y => nomatch y) (by simp)
      | some t =>
        have z' : topH K cs a O ns b = some t := z
        rw [topH_out nb] at z'
        obtain ⟨rfl, _, rfl⟩ := scriptH_some z'
        have e1 := (hok _ _ z).1
        have e2 := (hok' _ _ (un.frzs _ _ _ z)).1
        rw [e] at e1
        rw [e2, e1]
    have grown : ∀ p ∈ cs, ∃ more, s'.heap.get? p.2.1 = some (tObj more) := fun p hp => by
      obtain ⟨more, z⟩ := un.tbls p.2.1 #[] (topH_tab (List.mem_map_of_mem hp))
      exact ⟨_, hok' _ _ z⟩
    refine ⟨rfl, ⟨fun b o e => ?_, fun b o e => ?_⟩, os, bare⟩
    · by_cases hb : b ∈ tAd cs
      · have eo := isT hb
        rw [e] at eo
        cases eo
        obtain ⟨p, hp, rfl⟩ := List.mem_map.mp hb
        obtain ⟨more, hm⟩ := grown p hp
        obtain ⟨hc, hT⟩ := tabs p hp
        refine .inr (.inl ⟨(hc.tab hT).isCodeTable, rfl, #[], more, rfl, ?_⟩)
        rw [Array.empty_append]
        exact hm
      · exact .inl (stays b o hb e)
    · by_cases hb : b ∈ tAd cs
      · obtain ⟨p, hp, rfl⟩ := List.mem_map.mp hb
        obtain ⟨more, hm⟩ := grown p hp
        exact ⟨_, hm⟩
      · exact ⟨o, stays b o hb e⟩
end
end W9
namespace PySem
/-! max of two texts -/
theorem CmpOf.strs_gt {prog : Program} {w : World} {A : Around} {P : Nat → Value → Prop} (val : Nat → Str) (hval : ∀ i v, P i v → ∃ t, v = .str (val i) t) :
    CmpOf prog w A .Gt P (fun i j => decide ((val j).cps.toList < (val i).cps.toList)) := fun i j vi vj s Q E hi hj h => by
  obtain ⟨t, rfl⟩ := hval i vi hi
  obtain ⟨u, rfl⟩ := hval j vj hj
  exact richCompare_gives (op := .Gt) (typeIs_str s _ t) (typeIs_str s _ u) F.slot_str_gt F.entry_str_gt (F.args_str_gt_2 _ _) (gives_str_gt _ _ t u) (fun x => nomatch x) h
theorem max_two_strs {prog : Program} {w : World} {A : Around} {E : Value → Shared → Prop} {s : Shared} {a b : Str} {t u : Tok} {Q : Value → Shared → Prop} (hh : A.handled = none)
    (h : ∀ h' tk, (∀ c o, s.heap.get? c = some o → h'.get? c = some o) → Q (if a.cps.toList < b.cps.toList then .str b u else .str a t) { s with heap := h', toks := tk }) :
    wpAny (model prog w) A (call (.builtin "max") [.str a t, .str b u]) Q E s := by
  have hT : (s.heap.push { cls := .type "tuple", data := .seq #[.str a t, .str b u] }).IsTuple s.heap.objs.size #[.str a t, .str b u] := ⟨_, Heap.get?_push_size _ rfl, rfl, 0, rfl⟩
  refine call_max_two (wpAny_pyIter_tuple hT ?_)
  have hsz : (s.heap.push { cls := .type "tuple", data := .seq #[.str a t, .str b u] }).objs.size = s.heap.objs.size + 1 := Heap.size_push ..
  refine ⟨_, [_, s.heap.objs.size], [_], _, _, _, _, rfl, Walks.tuple (A := A.in1) hh _ s.heap.objs.size (by rw [hsz]; exact Nat.ne_of_lt (Nat.lt_succ_self _)) #[.str a t, .str b u],
    ⟨⟨_, Heap.get?_push_size _ rfl, rfl, rfl⟩, hT.push _⟩, fun c hc => ?_, by simp, CmpOf.strs_gt (fun i => if i = 0 then a else b) (fun i v hv => ?_), fun v h' tk hP hk => ?_⟩
  · show c < ((s.heap.push _).push _).objs.size
    rw [Heap.size_push, hsz]
    rcases List.mem_cons.mp hc with rfl | hc
    · rw [hsz]; exact Nat.lt_succ_self _
    · rcases List.mem_cons.mp hc with rfl | hc
      · exact Nat.lt_succ_of_lt (Nat.lt_succ_self _)
      · cases hc
  · match i, hv with
    | 0, hv => exact ⟨t, by simpa using hv.symm⟩
    | 1, hv => exact ⟨u, by simpa using hv.symm⟩
    | i + 2, hv => simp at hv
  · have hold : ∀ c o, s.heap.get? c = some o → h'.get? c = some o := fun c o e => by
      refine hk c o (fun hm => ?_) (Heap.get?_push_of_some _ (Heap.get?_push_of_some _ e))
      rcases List.mem_cons.mp hm with e1 | hm
      · have := Heap.lt_size e; rw [e1, hsz] at this; exact Nat.lt_irrefl _ (Nat.lt_of_succ_lt this)
      · cases hm
    have := h h' tk hold
    have hv : v = if a.cps.toList < b.cps.toList then Value.str b u else Value.str a t := by
      have hP' : (#[Value.str a t, .str b u] : Array Value)[argBest (fun i j => decide ((if j = 0 then a else b : Str).cps.toList < (if i = 0 then a else b : Str).cps.toList)) 1]? = some v := hP
      by_cases hba : a.cps.toList < b.cps.toList
      · have e : argBest (fun i j => decide ((if j = 0 then a else b : Str).cps.toList < (if i = 0 then a else b : Str).cps.toList)) 1 = 1 := by simp [argBest, hba]
        rw [e] at hP'
        rw [if_pos hba]
        simpa using hP'.symm
      · have e : argBest (fun i j => decide ((if j = 0 then a else b : Str).cps.toList < (if i = 0 then a else b : Str).cps.toList)) 1 = 0 := by simp [argBest, hba]
        rw [e] at hP'
        rw [if_neg hba]
        simpa using hP'.symm
    rw [hv]; exact this
end PySem
namespace W9
open PySem PySem.Spec PyProof.Rows L2 LamX
/-- a def with one default, all its parameters given -/
theorem bind_dflt {K : PySem.W.Frag} {x qual : Str} {params : Arguments} {body : List Stmt} {scope : Scope} {ps : List Str} {f T ea : Addr} {oc kV doc pm cdv ct doc2 : Value} {od an dod : Option Addr} {osl dsl : Array (Option Value)} {n : Nat}
    (l : K.lookup f = some ⟨oc, od, .func (PySem.W.fnOf x qual params body scope (.ref T) kV doc pm an cdv ct), osl⟩) (c : PySem.W.codeIn K cdv qual = true) (k : PySem.W.keepIn K (.ref f) = true) (e : K.lookup T = some ⟨doc2, dod, .seq #[.ref ea] n, dsl⟩)
    (h : ∀ (T : Addr) (kV doc pm : Value) (an : Option Addr) (cdv ct : Value) (us its : List Value), us.length = ps.length → its.length = 1 →
      ∃ k, bindArgs (PySem.W.fnOf x qual params body scope (.ref T) kV doc pm an cdv ct) ⟨us, []⟩ = seqItems? (.ref T) >>= k ∧ k (some its.toArray) = pure (ps.zip us)) : L2.Binds K (PySem.W.fnOf x qual params body scope (.ref T) kV doc pm an cdv ct) ps [] := by
  have F : FunD K x qual params body scope [V.ref ea] [] f (PySem.W.fnOf x qual params body scope (.ref T) kV doc pm an cdv ct) :=
    ⟨⟨oc, od, _, kV, doc, pm, an, cdv, ct, osl, rfl, l, c, .inr ⟨by simp, T, _, [.ref ea], n, rfl, e, rfl, .cons rfl .nil⟩, .inl rfl⟩, k⟩
  obtain ⟨ds, h1, h2⟩ := F.binds1 (ps := ps) ps.length 1 (by simp) (by simp) fun T kV doc pm an cdv ct us its hu hi => by
    obtain ⟨k, e1, e2⟩ := h T kV doc pm an cdv ct us its hu hi
    refine ⟨k, e1, ?_⟩
    match its, hi with
    | [x], _ => rw [List.drop_one, List.tail_cons, List.append_nil]; exact e2
  cases h1
  exact h2
section
variable {X : Cx} {ds : DE} {m : MS} {e a b : Expr} {es : List Expr} {pos p : Pos}
/-- an expression that may raise, a target -/
theorem xs_asg {tg : Expr} {js : List Nat} {E : ED} {R : RX} (h : XEx X e ds m (fun d m1 => WG X.nox tg js d ds m1 E.nx) R) (hs : swapsWithSole [tg] e pos.line X.env = pure false := by rfl) (hw : swappedStores [tg] e X.env = pure none := by rfl)
    (h1 : (assignEach [tg] X.env).map (·.2) = [assign tg X.env] := by rfl) : XS X (.Assign [tg] e pos) ds m E R := fun W tk σ G H e0 w x D k => oS (ps_asg (pE e) (pG tg) hs hw h1)
  (h W tk σ G H e0 w x _ fun v d m1 G1 H1 g1 r1 p => nG (p σ G1 H1 v (e0.mono g1.g) g1.wd r1 _ fun σ' ds' m' G' H' g' e' _ q => k.nx _ _ _ _ _ (g1.trans g') e' q))
/-! ### isinstance of any data -/
def tyN : PyData → String
  | .none => "NoneType"
  | .bool _ => "bool"
  | .int _ => "int"
  | .str _ => "str"
  | .list _ => "list"
  | .tuple _ => "tuple"
  | _ => "dict"
def isTy (u : String) (d : PyData) : Bool := tyN d == u || (u == "int" && tyN d == "bool")
theorem tyx_lst {K : PySem.W.Frag} {H : Hp} {a : Addr} {xs : List V} (h : SqL K H a xs) : TyX K H (.ref a) (.type "list") := by
  rcases h with (h | ⟨o, h⟩) | ⟨o, its, n, h1, h2, _⟩
  · exact .base (.lst h)
  · exact .base (.frz h)
  · exact .kList h1 h2
theorem tyx_any {d : PyData} : ∀ G H v, Wd X.K m G H → DS X.K G v (.py d) → TyX X.K H v (.type (tyN d)) := fun G H v w r => by
  cases r with
  | py r =>
    cases r with
    | non => exact .base .non
    | bl b => exact .base (.bl b)
    | int i => exact .base (.int i)
    | str x => exact .base (.str x)
    | lst h1 h2 => exact tyx_lst (ex_l w.w h1)
    | tup h1 h2 => exact tyx_tup (.inl (.inl (w.w _ _ h1)))
    | dct h1 h2 => exact .fDict (w.w _ _ h1)
theorem ca_isiD {d : PyData} {u : String} (hu : u = "int" ∨ u = "bool" ∨ u = "str" ∨ u = "tuple" ∨ u = "list") : CaD X (.builtin "isinstance") m [.py d, .raw (.ty u)] (B (isTy u d)) := by
  refine ca_isi tyx_any ?_
  have key : ∀ (t u : String) (k : Bool), (t == u) = k → (∀ K : PySem.W.Frag, k = false → PySem.W.kitOne K (.type t) (.type u) = some false) → PySem.W.kitOne X.K (.type t) (.type u) = some k := fun t u k e h => by
    cases k with
    | true => rw [beq_iff_eq.mp e]; exact kit_same
    | false => exact h _ rfl
  have tt : tyN d = "NoneType" ∨ tyN d = "bool" ∨ tyN d = "int" ∨ tyN d = "str" ∨ tyN d = "list" ∨ tyN d = "tuple" ∨ tyN d = "dict" := by cases d <;> simp [tyN]
  unfold isTy
  rcases hu with rfl | rfl | rfl | rfl | rfl <;> rcases tt with e | e | e | e | e | e | e <;> rw [e] <;>
    first
    | exact kit_same
    | exact kit_ty (by decide +kernel)
/-! ### operations -/
/-- max of two texts -/
theorem call_maxS (hc : X.calm = true) : CallR X (.builtin "max") (fun xs H Q => ∃ a b : Str, xs = [.str a, .str b] ∧ Q (if a.cps.toList < b.cps.toList then .str b else .str a) H) := by
  intro pins s σ H xs us Q I r h
  obtain ⟨a, b, rfl, q⟩ := h
  obtain ⟨u, w', rfl, ⟨t, rfl⟩, ⟨t', rfl⟩⟩ := vals2 r
  refine PySem.max_two_strs (I.ok.hd hc) fun h' tk k => ?_
  refine ⟨_, H, I.kept k, ?_, q⟩
  by_cases hj : a.cps.toList < b.cps.toList
  · rw [if_pos hj, if_pos hj]; exact ⟨_, rfl⟩
  · rw [if_neg hj, if_neg hj]; exact ⟨_, rfl⟩
theorem ca_maxS (hc : X.calm = true) {a b : List Nat} : CaD X (.builtin "max") m [S a, S b] (S (if a < b then b else a)) := ca_two (call_maxS hc) fun G H v u w r r2 Q q => by
  cases ds_str r
  cases ds_str r2
  refine ⟨_, _, rfl, ?_⟩
  by_cases h : a < b
  · rw [if_pos h] at q; rw [if_pos (by simpa using h)]; exact q _ _ _ (.refl w) (.py (.str _))
  · rw [if_neg h] at q; rw [if_neg (by simpa using h)]; exact q _ _ _ (.refl w) (.py (.str _))
/-- sorted of a list of ints -/
theorem ca_sortedI {ns : List Int} : CaD X (.builtin "sorted") m [Ls (ns.map .int)] (Ls ((srtI ns).map .int)) := ca_one cr_sortedI fun G H v w r Q q => by
  obtain ⟨a, xs, rfl, h1, h2⟩ := ds_lst r
  have e : xs = ns.map V.int := dpa_ints h2
  subst e
  refine ⟨a, ns, rfl, ex_l w.w h1, fun ys p hp hs hn => ?_⟩
  have g2 := Gr.new (o := .lst (ys.map V.int)) w hn
  rw [srt_is hp hs] at g2 ⊢
  exact q _ _ _ g2 (.py (.lst (SqL.of upd_same) (dpa_of_ints _)))
/-- min of a list of ints -/
theorem ca_minL (hc : X.calm = true) {ns : List Int} {k : Int} (hk : k ∈ ns) (hm : ∀ y ∈ ns, k ≤ y) : CaD X (.builtin "min") m [Ls (ns.map .int)] (I k) := ca_one (cr_min hc) fun G H v w r Q q => by
  obtain ⟨a, xs, rfl, h1, h2⟩ := ds_lst r
  have e : xs = ns.map V.int := dpa_ints h2
  subst e
  refine ⟨a, ns, rfl, ex_l w.w h1, List.length_pos_of_mem hk, fun z hz hmin => ?_⟩
  have e : z = k := Int.le_antisymm (hmin k hk) (hm z hz)
  rw [e]
  exact q _ _ _ (.refl w) (.py (.int _))
/-- text.upper() -/
theorem md_upper {l : List Nat} (hz : l.length ≤ 1000000) : MtD X "str" "str.upper" m (S l) [] (.py (.str (Txt.upper ⟨l.toArray⟩))) := ⟨ty_str, _, mt_upper, fun G H v vs w r rs Q q => by
  cases ds_str r
  cases rs
  exact ⟨_, rfl, rfl, by rw [str_len]; omega, q _ _ _ (.refl w) (.py (.str _))⟩⟩
/-- [..] * n -/
theorem ee_repL {l : List PyData} {k : Int} {p2 : Pos} (h : EAp X es ds l) (hb : EE X b ds (I k)) (hk : 0 ≤ k ∧ k ≤ 1000000 ∧ l.length * k.toNat ≤ 1000000 ∧ l.length ≤ 1000) : EE X (.BinOp (.List es p2) .Mult b pos) ds (Ls (List.replicate k.toNat l).flatten) := fun m σ G H E w Q q =>
  oE (pe_op op_rep (pE _) (pE b)) ((we_lstN (P := fun d m' => ∃ p, d = .raw (.ref p) ∧ p ∉ ad m ∧ m' = (p, OV.dl l) :: m) ((h m).mono fun xs m1 ⟨e1, e2⟩ => ⟨l, e1, by omega, fun p hp => ⟨p, rfl, by rw [e2] at hp; exact hp, by rw [e2]⟩⟩)) σ G H E w _ fun v d m1 G1 H1 g1 r1 ⟨p, e1, hp, e2⟩ => by
    subst e1 e2
    cases ds_raw r1
    refine hb _ σ G1 H1 (E.mono g1.g) g1.wd _ fun v2 d2 m2 G2 H2 g2 r2 ⟨e1, e2⟩ => ?_
    subst e1 e2
    cases ds_int r2
    obtain ⟨vs, h1, h2⟩ := own_get g2.wd List.mem_cons_self
    have hl := dpa_length h2
    refine ⟨p, k, vs, rfl, rfl, h1, by omega, by omega, by rw [hl]; have := sizeLine_eq; omega, fun p2 hn => ?_⟩
    have g3 := Gr.new (o := .lst (List.replicate k.toNat vs).flatten) g2.wd hn
    refine q _ _ _ _ _ (((g1.trans g2).trans g3).trans (Gr.drop g3.wd)) (.py (.lst (SqL.of upd_same) ?_)) ⟨rfl, rfl⟩
    have h3 := dpa_mono g3.g h2
    generalize upd G2 p2 (HO.lst (List.replicate k.toNat vs).flatten) = GG at h3 ⊢
    generalize k.toNat = n
    induction n with
    | zero => exact .nil
    | succ n ih => rw [List.replicate_succ, List.replicate_succ, List.flatten_cons, List.flatten_cons]; exact dpa_append h3 ih)
/-- == and != of data -/
theorem cd_eqD (hr : Rm 0 X.A) {d e : PyData} (sd : SeqAt.shaped d = true) (se : SeqAt.shaped e = true) : CmpD X .Eq (.py d) (.py e) (PyData.eqv d e) := ⟨_, op_eqD (by have := hr.r.un; omega), fun m G H v u w r1 r2 Q q => by
  cases r1 with
  | py r1 => cases r2 with
    | py r2 => exact ⟨d, e, dp_l2 (hd_shaped sd) (dp_mono w.w r1), dp_l2 (hd_shaped se) (dp_mono w.w r2), sd, se, q _ _ _ (.refl w) (.py (.bl _))⟩⟩
theorem cd_neD (hr : Rm 0 X.A) {d e : PyData} (sd : SeqAt.shaped d = true) (se : SeqAt.shaped e = true) : CmpD X .NotEq (.py d) (.py e) (!PyData.eqv d e) := ⟨_, op_neD (by have := hr.r.un; omega), fun m G H v u w r1 r2 Q q => by
  cases r1 with
  | py r1 => cases r2 with
    | py r2 => exact ⟨d, e, dp_l2 (hd_shaped sd) (dp_mono w.w r1), dp_l2 (hd_shaped se) (dp_mono w.w r2), sd, se, q _ _ _ (.refl w) (.py (.bl _))⟩⟩
/-- an int in a list of ints -/
theorem anyI {i : Int} {l : List Int} : ((l.map PyData.int).any fun z => PyData.eqv z (.int i)) = decide (i ∈ l) := by
  rw [Bool.eq_iff_iff, List.any_eq_true, decide_eq_true_eq]
  constructor
  · rintro ⟨z, hz, e⟩
    obtain ⟨j, hj, rfl⟩ := List.mem_map.mp hz
    have e : (j == i) = true := by simpa [PyData.eqv] using e
    rw [← beq_iff_eq.mp e]; exact hj
  · intro h
    exact ⟨.int i, List.mem_map_of_mem h, by simp [PyData.eqv]⟩
theorem sh_ints {l : List Int} : SeqAt.shaped (.list (l.map .int)) = true := by
  unfold SeqAt.shaped
  have h1 : PyData.canLayAll0 (l.map PyData.int) = true := by
    induction l with
    | nil => rfl
    | cons x l ih => rw [List.map_cons]; simp [PyData.canLayAll0, PyData.canLay0, ih]
  have h2 : PyData.depth (.list (l.map .int)) ≤ 64 := by
    have : ∀ l : List Int, PyData.depthAll (l.map PyData.int) ≤ 1 := fun l => by
      induction l with
      | nil => simp [PyData.depthAll]
      | cons x l ih => rw [List.map_cons]; simp only [PyData.depthAll, PyData.depth]; omega
    have := this l
    simp only [PyData.depth]
    omega
  rw [Bool.and_eq_true]
  exact ⟨by simpa [PyData.canLay0] using h1, decide_eq_true h2⟩
theorem cd_notinI (hr : Rm 0 X.A) {i : Int} {l : List Int} : CmpD X .NotIn (I i) (Ls (l.map .int)) (!decide (i ∈ l)) := ⟨_, op_notInD (by have := hr.r.un; omega), fun m G H v u w r1 r2 Q q => by
  cases r1 with
  | py r1 => cases r2 with
    | py r2 => exact ⟨_, _, dp_l2 rfl (dp_mono w.w r1), dp_l2 (hd_shaped sh_ints) (dp_mono w.w r2), rfl, sh_ints, by rw [anyI]; exact q _ _ _ (.refl w) (.py (.bl _))⟩⟩
end
end W9
namespace W9
open PySem PySem.Spec PyProof.Rows L2
/-! ### sorted(set(list of ints)) -/
section
variable {P : Program} {w : World} {A : Around} {E : Value → Shared → Prop} {s : Shared}
theorem setR_fill {I : Addr} {fp wr : List Addr} {G : Array GenState → Array GenState → Prop} {n : Nat} {Pv : Nat → Value → Prop} {St : Nat → Shared → Prop} {R : Result → Shared → Prop}
    (W : WalksS P w A.in1 I fp wr G n Pv St) (a : Addr) (ha : a ∉ fp) (xs : List Int) (hb : n + 1 < scanBound) (hn : n = xs.length) (hv : ∀ i v, Pv i v → ∃ k t, xs[i]? = some k ∧ v = .int k t) :
    ∀ (m i : Nat) (s : Shared) (S : Int → Bool) (c : Nat), i + m = n → St i s → SetR w s.heap a S c → c ≤ i →
      (∀ s' S' c', Moved (a :: wr) G s s' → SetR w s'.heap a S' c' → c' ≤ n → (∀ z, S' z = true ↔ S z = true ∨ z ∈ xs.drop i) → R (.ok (.ret .none)) s') →
      codeAny (model P w) A (.builtin "set.update.loop" ⟨[.ref a, .ref I], []⟩) R s
  | 0, i, s, S, c, him, hst, bg, hl, hR => by
    have e : i = n := him
    subst e
    refine codeAny_builtin PyProof.Rows.F.entry_set_update_loop ?_
    rw [Around.under_plainId PyProof.Rows.F.plain_set_update_loop _]
    refine wpAny_bind (m := pyNext (.ref I)) (W.done s _ _ hst fun s' hm => ?_)
    refine wpAny_pure (hR s' S c (hm.mono fun b hb => List.mem_cons_of_mem _ hb) (bg.at fun o e => hm.heap a o (fun h => ha (W.sub _ h)) e) hl fun z => ?_)
    rw [hn, List.drop_length]
    exact ⟨.inl, fun q => q.elim id fun q => nomatch q⟩
  | m + 1, i, s, S, c, him, hst, bg, hl, hR => by
    have hlt : i < n := by omega
    have aw : a ∉ wr := fun h => ha (W.sub _ h)
    refine codeAny_builtin PyProof.Rows.F.entry_set_update_loop ?_
    rw [Around.under_plainId PyProof.Rows.F.plain_set_update_loop _]
    refine wpAny_bind (m := pyNext (.ref I)) (W.item i s _ _ hlt hst fun v s' hP hst' hm => ?_)
    obtain ⟨k, t, hk, rfl⟩ := hv i v hP
    have hm2 : Moved (a :: wr) G s s' := hm.mono fun b hb => List.mem_cons_of_mem _ hb
    show wpAny _ A.in1 (holding [Value.int k t] (setAdd a (.int k t)) >>= _) _ _ s'
    refine wpAny_bind (wpAny_holding ?_)
    unfold setAdd
    refine wpAny_holding (wpAny_bind ((intKind P w).pyHash (intKind_is P w k t) ?_))
    refine setR_add_hashed (s := { s' with toks := s'.toks + 1 }) (bg.at fun o e => hm.heap a o aw e) (by omega) fun h' sb bg' => ?_
    refine wpAny_pure ⟨plainId_quiet PyProof.Rows.F.plain_set_update_loop _, setR_fill W a ha xs hb hn hv m (i + 1) _ _ _ (by omega) (W.frame _ s' _ _ hst' (Nat.le_succ _) fun b hb o e => (sb.2 b (fun z => ha (z ▸ hb))).trans e) bg' (by split <;> omega) fun s2 S2 c2 hm3 bg2 hl2 mem2 => ?_⟩
    refine hR s2 S2 c2 (Moved.trans W.gtrans (hm2.then_heap (Nat.le_succ _) fun b o hb e => (sb.2 b (fun z => hb (z ▸ List.mem_cons_self))).trans e) hm3) bg2 hl2 fun z => ?_
    rw [mem2, List.drop_eq_getElem_cons (by omega : i < xs.length), List.mem_cons]
    have e : xs[i]'(by omega) = k := by
      rw [List.getElem?_eq_getElem (by omega)] at hk
      exact Option.some.inj hk
    rw [e]
    simp only [Bool.or_eq_true, decide_eq_true_eq]
    exact ⟨fun q => q.elim (fun q => q.elim .inl (fun q => .inr (.inl q))) (fun q => .inr (.inr q)), fun q => q.elim (fun q => .inl (.inl q)) fun q => q.elim (fun q => .inl (.inr q)) .inr⟩
/-- what set.__init__ leaves -/
def FilledI (w : World) (s : Shared) (xs : List Int) (r : Value) (s2 : Shared) : Prop :=
  r = .none ∧ ∃ h' tk S c, s2 = { s with heap := h', toks := tk } ∧ SetR w h' s.heap.objs.size S c ∧ (∀ z, S z = true ↔ z ∈ xs) ∧ c ≤ xs.length ∧ ∀ b o, s.heap.get? b = some o → h'.get? b = some o
theorem setI_init {q : Addr} {items : Array Value} {xs : List Int} {A' : Around} (hh : A'.handled = none) (hq : s.heap.IsList q items) (hi : IntsAre items.toList xs) (hb : xs.length + 1 < scanBound) :
    codeAny (model P w) A' (.call (.builtin "set.__init__") ⟨[.ref s.heap.objs.size, .ref q], []⟩) (wants (FilledI w s xs) E) (withSet w s) := by
  have hT : Shared.TypeIs (withSet w s) (.ref s.heap.objs.size) "set" := ⟨_, with_at, rfl⟩
  refine codeAny_call_builtin (R := wants (FilledI w s xs) E) PySem.F.called_set.init.plain PySem.F.entry_set_init (check_set_init_1 hT ?_)
  have lq : q < s.heap.objs.size := let ⟨o, h1, _⟩ := hq; Heap.lt_size h1
  obtain ⟨⟨oc, od, ot, os⟩, h1, h2, en, h3⟩ := hq
  have h2 : oc = .type "list" := h2
  have h3 : ot = .seq items en := h3
  subst h2 h3
  have h4 : (withSet w s).heap.get? q = some { cls := .type "list", dict := od, data := .seq items en, slots := os } := Heap.get?_push_of_some _ h1
  have s1 := PySem.F.sub_list_set
  have s2 := PySem.F.sub_list_frozenset
  have nd : (Value.type "list" == Value.type "dict") = false := by decide
  have il : (withSet w s).heap.IsList q items := ⟨_, h4, rfl, en, rfl⟩
  unfold Builtin.«set.__init__» noKeywords Builtin.Frozenset.updateFrom
  generalize hp : pyIter = pI
  wp_walk
  subst hp
  refine wpAny_pyIter_list il (wpAny_bind (wpAny_runValue ?_))
  have h5 : A'.in1.in1.handled = none := by simp [hh]
  have h6 : A'.in1.handled = none := by simp [hh]
  have sz : (withSet w s).heap.objs.size = s.heap.objs.size + 1 := Heap.size_push ..
  have n1 : q ≠ (withSet w s).heap.objs.size := nat_off1 lq sz
  have n2 : s.heap.objs.size ∉ [(withSet w s).heap.objs.size, q] := by
    intro z
    rcases List.mem_cons.mp z with z | z
    · exact nat_off2 sz z
    · exact nat_off3 lq (List.mem_singleton.mp z)
  have hn : items.size = xs.length := by
    rw [← hi.length, Array.length_toList]
  have hv : ∀ (i : Nat) (v : Value), items[i]? = some v → ∃ k t, xs[i]? = some k ∧ v = .int k t := fun i v e => by
    have ee : items.toList[i]? = some v := by rw [Array.getElem?_toList]; exact e
    exact ints_get hi i v ee
  refine setR_fill ((Walks.list (by assumption) _ q n1 items).toS) s.heap.objs.size n2 xs (by omega) hn hv items.size 0 _ (fun _ => false) 0 (Nat.zero_add _) ⟨⟨_, Heap.get?_push_size _ rfl, rfl, rfl⟩, il.push _⟩ ((setR_fresh w).at fun o e => Heap.get?_push_of_some _ e) (Nat.le_refl _) fun s3 S c hm bg hl mem => ?_
  obtain ⟨h7, g7, d7, t7, o7⟩ := s3
  have e1 : g7 = s.gens := hm.gens
  have e2 : d7 = s.drawn := hm.drawn
  have e3 : o7 = s.os := hm.os
  subst e1 e2 e3
  show wpAny _ _ _ _ _ _
  refine wpAny_pure ?_
  show wpAny _ _ (ret Value.none) _ _ _
  refine wpAny_pure ⟨rfl, h7, t7, S, c, rfl, bg, fun z => (mem z).trans ⟨fun x => x.elim (fun x => nomatch x) id, .inr⟩, hn ▸ hl, fun b o e => ?_⟩
  have lb := Heap.lt_size e
  refine hm.heap b o (fun z => ?_) (Heap.get?_push_of_some _ (Heap.get?_push_of_some _ e))
  rcases List.mem_cons.mp z with z | z
  · exact nat_off3 lb z.symm
  · exact nat_off1 lb sz (List.mem_singleton.mp z)
where ints_get : ∀ {us : List Value} {xs : List Int}, IntsAre us xs → ∀ (i : Nat) (v : Value), us[i]? = some v → ∃ k t, xs[i]? = some k ∧ v = .int k t
  | _, _, .nil, i, v, e => by simp at e
  | _, _, .cons k t r, 0, v, e => ⟨k, t, rfl, by simpa using e.symm⟩
  | _, _, .cons k t r, i + 1, v, e => ints_get r i v (by simpa using e)
/-- set(list of ints) -/
theorem setI_call {q : Addr} {items : Array Value} {xs : List Int} {Q : Value → Shared → Prop} (hh : A.handled = none) (hq : s.heap.IsList q items) (hi : IntsAre items.toList xs) (hb : xs.length + 1 < scanBound)
    (h : ∀ h' tk S c, SetR w h' s.heap.objs.size S c → (∀ z, S z = true ↔ z ∈ xs) → c ≤ xs.length → (∀ b o, s.heap.get? b = some o → h'.get? b = some o) → Q (.ref s.heap.objs.size) { s with heap := h', toks := tk }) :
    wpAny (model P w) A (call (.type "set") [.ref q]) Q E s := by
  obtain ⟨cc, tl, m1⟩ := PySem.F.called_set.mro
  have m2 := PySem.F.called_set.made
  have m3 := PySem.F.called_set.sub
  have m4 := PySem.F.called_set.notType
  have m5 := PySem.F.called_set.canCreate
  have m6 := PySem.F.typeCall_set_1 (.ref q)
  refine wpAny_call (codeAny_of_tree (wpAny_pure ?_))
  refine ⟨Code.quiet_builtin _ (by decide +kernel), codeAny_builtin PySem.F.entry_type_call ?_⟩
  rw [Around.under_plain (weight_type_call_type "set" [.ref q] []) rfl]
  repeat (any_goals (first | assumption | wp_step))
  refine codeAny_mono (code_set_led1 (E := E) (.ref q) (Q₁ := fun v s1 => v = .ref s.heap.objs.size ∧ s1 = withSet w s) ⟨rfl, rfl⟩) fun r s1 hr => ?_
  match r, hr with
  | .error e, hr => exact hr
  | .ok (.ret v), hr =>
    obtain ⟨e1, e2⟩ := hr
    subst e1 e2
    have hT : Shared.TypeIs (withSet w s) (.ref s.heap.objs.size) "set" := ⟨_, with_at, rfl⟩
    have l1 := PySem.F.called_set.init.lookup
    have l2 := PySem.F.called_set.init.bind (.ref s.heap.objs.size)
    repeat (any_goals (first | assumption | wp_step))
    refine codeAny_mono (setI_init (E := E) (by simp [hh]) hq hi hb) fun r2 s2 h2 => ?_
    match r2, h2 with
    | .error e, h2 => exact h2
    | .ok (.ret v2), h2 =>
      obtain ⟨e1, h', tk, S, c, e2, b1, b2, b3, b4⟩ := h2
      subst e1 e2
      repeat (any_goals (first | assumption | wp_step))
      exact h _ _ _ _ b1 b2 b3 b4
    | .ok .next, h2 => exact h2.elim
    | .ok .brk, h2 => exact h2.elim
    | .ok .cont, h2 => exact h2.elim
  | .ok .next, hr => exact hr.elim
  | .ok .brk, hr => exact hr.elim
  | .ok .cont, hr => exact hr.elim
end
theorem cr_setI {X : Cx} (hc : X.calm = true) : CallR X (.type "set") (fun vs H Q => ∃ (l : Addr) (ns : List Int), vs = [V.ref l] ∧ SqL X.K H l (ns.map V.int) ∧ ns.length < 64 ∧ ∀ (a : Addr) (S : Int → Bool) (c : Nat), H a = none → (∀ z, S z = true ↔ z ∈ ns) → c ≤ ns.length → Q (.ref a) (upd H a (SetO X.w a S c))) := by
  intro pins s σ H vs us Q I r h
  obtain ⟨l, ns, rfl, hq, h64, q⟩ := h
  rw [Vals.ref1 r]
  obtain ⟨its, rv, pl, hz⟩ := I.list hq
  refine setI_call (xs := ns) (I.ok.hd hc) pl.isList (by simpa using rv.ints) (by unfold scanBound; omega) fun h' tk S c R hS hl k => ?_
  have hn : H s.heap.objs.size = none := I.hok.fresh (Nat.le_refl _)
  exact ⟨.ref _, upd H s.heap.objs.size (SetO X.w s.heap.objs.size S c), I.laid (t' := tk) k (Nat.le_refl _) (setO_new R), rfl, q _ S c hn hS hl⟩
/-- x ascending, no one twice -/
def ascI : List Int → Bool
  | a :: b :: l => decide (a < b) && ascI (b :: l)
  | _ => true
theorem ascI_pw : ∀ {l : List Int}, ascI l = true ↔ l.Pairwise (· < ·)
  | [] => ⟨fun _ => .nil, fun _ => rfl⟩
  | [a] => ⟨fun _ => List.pairwise_singleton .., fun _ => rfl⟩
  | a :: b :: l => by
    unfold ascI
    rw [Bool.and_eq_true, decide_eq_true_eq, ascI_pw (l := b :: l), List.pairwise_cons (a := a)]
    constructor
    · rintro ⟨h1, h2⟩
      refine ⟨fun c hc => ?_, h2⟩
      rcases List.mem_cons.mp hc with rfl | hc
      · exact h1
      · exact Int.lt_trans h1 ((List.pairwise_cons.mp h2).1 c hc)
    · rintro ⟨h1, h2⟩
      exact ⟨h1 b List.mem_cons_self, h2⟩
theorem srt_asc {l r : List Int} (hr : r.Pairwise (· < ·)) (hm : ∀ k, k ∈ r ↔ k ∈ l) : l = r ↔ ascI l = true := by
  rw [ascI_pw]
  constructor
  · rintro rfl; exact hr
  · intro hl
    have key : ∀ {a b : List Int}, a.Pairwise (· < ·) → b.Pairwise (· < ·) → (∀ k, k ∈ a ↔ k ∈ b) → a = b := by
      intro a
      induction a with
      | nil =>
        intro b _ _ h
        cases b with
        | nil => rfl
        | cons y b => exact absurd ((h y).mpr List.mem_cons_self) (by simp)
      | cons x a ih =>
        intro b ha hb h
        cases b with
        | nil => exact absurd ((h x).mp List.mem_cons_self) (by simp)
        | cons y b =>
          rw [List.pairwise_cons] at ha hb
          have e : x = y := by
            rcases List.mem_cons.mp ((h x).mp List.mem_cons_self) with e | e
            · exact e
            · rcases List.mem_cons.mp ((h y).mpr List.mem_cons_self) with e2 | e2
              · exact e2.symm
              · have := ha.1 y e2
                have := hb.1 x e
                omega
          subst e
          rw [ih ha.2 hb.2 fun k => ?_]
          constructor
          · intro hk
            rcases List.mem_cons.mp ((h k).mp (List.mem_cons_of_mem _ hk)) with e | e
            · subst e; exact absurd (ha.1 k hk) (Int.lt_irrefl _)
            · exact e
          · intro hk
            rcases List.mem_cons.mp ((h k).mpr (List.mem_cons_of_mem _ hk)) with e | e
            · subst e; exact absurd (hb.1 k hk) (Int.lt_irrefl _)
            · exact e
    exact key hl hr fun k => (hm k).symm
section
variable {X : Cx} {ds : DE} {m : MS} {e : Expr} {pos : Pos}
/-- sorted(set(e)), e a list of ints -/
theorem we_sortsetI {p p2 q2 : Pos} {ns : List Int} {P : SD → MS → Prop} (h : EE X e ds (Ls (ns.map .int))) (hl : ns.length < 64) (k : ∀ r : List Int, r.Pairwise (· < ·) → (∀ z, z ∈ r ↔ z ∈ ns) → P (Ls (r.map .int)) m) (hm : X.mg "sorted" = none) (hm2 : X.mg "set" = none) (hc : X.calm = true := by rfl) (hg : Gl X "sorted" := by rfl) (hg2 : Gl X "set" := by rfl)
    (he : starEach [e] X.env = (false, eval e X.env) :: starEach [] X.env := by rfl) (he2 : starEach [.Call (.Name "set" p2) [e] [] q2] X.env = (false, eval (.Call (.Name "set" p2) [e] [] q2) X.env) :: starEach [] X.env := by rfl) :
    WE X (.Call (.Name "sorted" p) [.Call (.Name "set" p2) [e] [] q2] [] pos) ds m P := fun σ G H E w Q q => by
  have b1 : bootBuiltins "sorted" = some (.builtin "sorted") := by decide +kernel
  have b2 : bootBuiltins "set" = some (.type "set") := by decide +kernel
  refine oE (pe_callB (cr_sortedSet hc) hg hm b1 (pa_cons (pe_callTy (cr_setI hc) hg2 hm2 b2 (pA [e]) (by decide) (by decide) he (by rfl)) pa_nil he2) (by decide) (by decide) he2 (by rfl)) ?_
  refine (ea_cons h ea_nil he : EA X [e] ds _) m σ G H E w _ fun vs xs m1 G1 H1 g1 r1 ⟨e1, e2⟩ => ?_
  subst e1 e2
  cases r1 with
  | cons r1 r2 =>
    cases r2
    obtain ⟨a, ys, rfl, h1, h2⟩ := ds_lst r1
    have ey : ys = ns.map V.int := dpa_ints h2
    subst ey
    refine ⟨a, ns, rfl, ex_l g1.wd.w h1, hl, fun b S c hb hS hcn => ?_⟩
    have g2 := Gr.made (o := SetO X.w b S c) (v := .ho (SetO X.w b S c)) g1.wd hb ⟨rfl, fun _ z => nomatch z⟩
    refine ⟨b, S, c, rfl, upd_same, by omega, fun r p hs hmem hlen hp => ?_⟩
    have g3 := Gr.new (o := .lst (r.map V.int)) g2.wd hp
    refine q _ _ _ _ _ (((g1.trans g2).trans g3).trans (Gr.drop (g3.wd))) ?_ (k r hs fun z => (hmem z).trans (hS z))
    exact .py (.lst (SqL.of upd_same) (dpa_of_ints r))
end
end W9
namespace W9
open PySem PySem.Spec PyProof.Rows L2
namespace K15
theorem bo_len : bootBuiltins "len" = some (.builtin "len") := by decide +kernel
theorem bo_all : bootBuiltins "all" = some (.builtin "all") := by decide +kernel
theorem bo_isinstance : bootBuiltins "isinstance" = some (.builtin "isinstance") := by decide +kernel
theorem bo_sum : bootBuiltins "sum" = some (.builtin "sum") := by decide +kernel
theorem bo_abs : bootBuiltins "abs" = some (.builtin "abs") := by decide +kernel
theorem bo_max : bootBuiltins "max" = some (.builtin "max") := by decide +kernel
theorem bo_min : bootBuiltins "min" = some (.builtin "min") := by decide +kernel
theorem bo_repr : bootBuiltins "repr" = some (.builtin "repr") := by decide +kernel
theorem bo_sorted : bootBuiltins "sorted" = some (.builtin "sorted") := by decide +kernel
theorem bo_int : bootBuiltins "int" = some (.type "int") := by decide +kernel
theorem bo_bool : bootBuiltins "bool" = some (.type "bool") := by decide +kernel
theorem bo_str : bootBuiltins "str" = some (.type "str") := by decide +kernel
theorem bo_tuple : bootBuiltins "tuple" = some (.type "tuple") := by decide +kernel
theorem bo_list : bootBuiltins "list" = some (.type "list") := by decide +kernel
theorem bo_dict : bootBuiltins "dict" = some (.type "dict") := by decide +kernel
/-! ### the text's parts -/
def topS (i : Nat) : Stmt := PySem.Challenge.pw_wornyettold_k15_sizes_faults_places_cell.main.body.getD i (.Pass ⟨0, 0, 0, 0⟩)
theorem sc_is_whole : FnScope ["value"] ["value"] (defScope (topS 4)) := ⟨rfl, rfl, rfl, by decide +kernel, rfl, by decide +kernel, by decide +kernel⟩
theorem sc_is_integer : FnScope ["value", "low", "high"] ["value", "low", "high"] (defScope (topS 5)) := ⟨rfl, rfl, rfl, by decide +kernel, rfl, by decide +kernel, by decide +kernel⟩
theorem sc_is_tuple : FnScope ["value", "low", "high"] ["value", "low", "high"] (defScope (topS 6)) := ⟨rfl, rfl, rfl, by decide +kernel, rfl, by decide +kernel, by decide +kernel⟩
theorem sc_is_string : FnScope ["value", "some"] ["value", "some"] (defScope (topS 7)) := ⟨rfl, rfl, rfl, by decide +kernel, rfl, by decide +kernel, by decide +kernel⟩
theorem sc_are_cells : FnScope ["value", "low", "high", "cell"] ["value", "low", "high"] (defScope (topS 8)) := ⟨rfl, rfl, rfl, by decide +kernel, rfl, by decide +kernel, by decide +kernel⟩
theorem sc_is_page : FnScope ["value"] ["value"] (defScope (topS 9)) := ⟨rfl, rfl, rfl, by decide +kernel, rfl, by decide +kernel, by decide +kernel⟩
theorem sc_is_fault : FnScope ["value"] ["value"] (defScope (topS 31)) := ⟨rfl, rfl, rfl, by decide +kernel, rfl, by decide +kernel, by decide +kernel⟩
theorem sc_are_faults : FnScope ["value", "fault", "one", "other"] ["value"] (defScope (topS 32)) := ⟨rfl, rfl, rfl, by decide +kernel, rfl, by decide +kernel, by decide +kernel⟩
theorem sc_torn : FnScope ["cells", "pattern", "many", "at", "cell"] ["cells", "pattern"] (defScope (topS 33)) := ⟨rfl, rfl, rfl, by decide +kernel, rfl, by decide +kernel, by decide +kernel⟩
theorem sc_Chip___init__ : FnScope ["self", "blocks", "pages", "faults", "at", "word", "pattern", "place", "block"] ["self", "blocks", "pages", "faults"] (defScope (inClass (topS 34) 1)) := ⟨rfl, rfl, rfl, by decide +kernel, rfl, by decide +kernel, by decide +kernel⟩
theorem sc_Chip_wear : FnScope ["self"] ["self"] (defScope (inClass (topS 34) 4)) := ⟨rfl, rfl, rfl, by decide +kernel, rfl, by decide +kernel, by decide +kernel⟩
theorem sc_Chip_bad : FnScope ["self"] ["self"] (defScope (inClass (topS 34) 5)) := ⟨rfl, rfl, rfl, by decide +kernel, rfl, by decide +kernel, by decide +kernel⟩
theorem sc_Chip_done : FnScope ["self"] ["self"] (defScope (inClass (topS 34) 6)) := ⟨rfl, rfl, rfl, by decide +kernel, rfl, by decide +kernel, by decide +kernel⟩
theorem sc_Chip_cuts : FnScope ["self"] ["self"] (defScope (inClass (topS 34) 7)) := ⟨rfl, rfl, rfl, by decide +kernel, rfl, by decide +kernel, by decide +kernel⟩
theorem sc_Chip_is_on : FnScope ["self"] ["self"] (defScope (inClass (topS 34) 8)) := ⟨rfl, rfl, rfl, by decide +kernel, rfl, by decide +kernel, by decide +kernel⟩
theorem sc_Chip_check_page : FnScope ["self", "place"] ["self", "place"] (defScope (inClass (topS 34) 11)) := ⟨rfl, rfl, rfl, by decide +kernel, rfl, by decide +kernel, by decide +kernel⟩
theorem sc_Chip_read : FnScope ["self", "place"] ["self", "place"] (defScope (inClass (topS 34) 12)) := ⟨rfl, rfl, rfl, by decide +kernel, rfl, by decide +kernel, by decide +kernel⟩
theorem sc_Chip_begin_deed : FnScope ["self"] ["self"] (defScope (inClass (topS 34) 13)) := ⟨rfl, rfl, rfl, by decide +kernel, rfl, by decide +kernel, by decide +kernel⟩
theorem sc_Chip_end_deed : FnScope ["self", "block", "word"] ["self", "block", "word"] (defScope (inClass (topS 34) 14)) := ⟨rfl, rfl, rfl, by decide +kernel, rfl, by decide +kernel, by decide +kernel⟩
theorem sc_Chip_write : FnScope ["self", "place", "cells", "word", "pattern", "block"] ["self", "place", "cells"] (defScope (inClass (topS 34) 15)) := ⟨rfl, rfl, rfl, by decide +kernel, rfl, by decide +kernel, by decide +kernel⟩
theorem sc_Chip_erase : FnScope ["self", "block", "word", "pattern", "place"] ["self", "block"] (defScope (inClass (topS 34) 16)) := ⟨rfl, rfl, rfl, by decide +kernel, rfl, by decide +kernel, by decide +kernel⟩
theorem sc_Chip_fault : FnScope ["self", "ahead", "word", "pattern", "told", "pending", "at"] ["self", "ahead", "word", "pattern"] (defScope (inClass (topS 34) 18)) := ⟨rfl, rfl, rfl, by decide +kernel, rfl, by decide +kernel, by decide +kernel⟩
theorem sc_Chip_can_fade : FnScope ["self", "place", "cell", "sign"] ["self", "place", "cell", "sign"] (defScope (inClass (topS 34) 19)) := ⟨rfl, rfl, rfl, by decide +kernel, rfl, by decide +kernel, by decide +kernel⟩
theorem sc_Chip_fade : FnScope ["self", "place", "cell", "sign", "cells"] ["self", "place", "cell", "sign"] (defScope (inClass (topS 34) 20)) := ⟨rfl, rfl, rfl, by decide +kernel, rfl, by decide +kernel, by decide +kernel⟩
theorem sc_Chip_image : FnScope ["self"] ["self"] (defScope (inClass (topS 34) 21)) := ⟨rfl, rfl, rfl, by decide +kernel, rfl, by decide +kernel, by decide +kernel⟩
theorem sc__law_pot : FnScope ["script", "place", "cell", "own", "small"] ["script", "place"] (defScope (topS 36)) := ⟨rfl, rfl, rfl, by decide +kernel, rfl, by decide +kernel, by decide +kernel⟩
theorem sc__law_take : FnScope ["pot", "upto", "digit", "prime", "blend"] ["pot", "upto"] (defScope (topS 37)) := ⟨rfl, rfl, rfl, by decide +kernel, rfl, by decide +kernel, by decide +kernel⟩
theorem sc__law_of : FnScope ["pot", "some"] ["pot", "some"] (defScope (topS 38)) := ⟨rfl, rfl, rfl, by decide +kernel, rfl, by decide +kernel, by decide +kernel⟩
theorem sc__law_cells : FnScope ["script", "most"] ["script", "most"] (defScope (topS 39)) := ⟨rfl, rfl, rfl, by decide +kernel, rfl, by decide +kernel, by decide +kernel⟩
theorem sc__law_is_int : FnScope ["value", "low", "high"] ["value", "low", "high"] (defScope (topS 41)) := ⟨rfl, rfl, rfl, by decide +kernel, rfl, by decide +kernel, by decide +kernel⟩
theorem sc__law_chip_begun : FnScope ["blocks", "pages", "faults", "found"] ["blocks", "pages", "faults"] (defScope (topS 42)) := ⟨rfl, rfl, rfl, by decide +kernel, rfl, by decide +kernel, by decide +kernel⟩
theorem sc__law_chip_is_cells : FnScope ["value", "low", "high", "sign"] ["value", "low", "high"] (defScope (topS 43)) := ⟨rfl, rfl, rfl, by decide +kernel, rfl, by decide +kernel, by decide +kernel⟩
theorem sc__law_chip_are_faults : FnScope ["value", "fault", "ats"] ["value"] (defScope (topS 44)) := ⟨rfl, rfl, rfl, by decide +kernel, rfl, by decide +kernel, by decide +kernel⟩
theorem sc__law_chip_torn : FnScope ["cells", "pattern", "found", "at", "cell", "raised"] ["cells", "pattern"] (defScope (topS 45)) := ⟨rfl, rfl, rfl, by decide +kernel, rfl, by decide +kernel, by decide +kernel⟩
theorem sc__law_chip_fault : FnScope ["own", "some", "at", "word", "pattern"] ["own"] (defScope (topS 46)) := ⟨rfl, rfl, rfl, by decide +kernel, rfl, by decide +kernel, by decide +kernel⟩
theorem sc__law_chip_deed : FnScope ["own", "block", "word", "later"] ["own", "block", "word"] (defScope (topS 47)) := ⟨rfl, rfl, rfl, by decide +kernel, rfl, by decide +kernel, by decide +kernel⟩
theorem sc__law_chip_written : FnScope ["own", "place", "cells", "word", "pattern", "block", "later", "told", "rows"] ["own", "place", "cells"] (defScope (topS 48)) := ⟨rfl, rfl, rfl, by decide +kernel, rfl, by decide +kernel, by decide +kernel⟩
theorem sc__law_chip_erased : FnScope ["own", "block", "word", "pattern", "later", "told", "rows", "wear", "places", "place", "cells"] ["own", "block"] (defScope (topS 49)) := ⟨rfl, rfl, rfl, by decide +kernel, rfl, by decide +kernel, by decide +kernel⟩
theorem sc__law_chip_can_fade : FnScope ["own", "place", "cell", "sign", "cells"] ["own", "place", "cell", "sign"] (defScope (topS 50)) := ⟨rfl, rfl, rfl, by decide +kernel, rfl, by decide +kernel, by decide +kernel⟩
theorem sc__law_chip_faded : FnScope ["own", "place", "cell", "sign", "later", "rows"] ["own", "place", "cell", "sign"] (defScope (topS 51)) := ⟨rfl, rfl, rfl, by decide +kernel, rfl, by decide +kernel, by decide +kernel⟩
theorem sc__law_chip_is_told : FnScope ["chip", "own"] ["chip", "own"] (defScope (topS 52)) := ⟨rfl, rfl, rfl, by decide +kernel, rfl, by decide +kernel, by decide +kernel⟩
theorem sc__law_chip_pattern : FnScope ["pot", "way", "lap"] ["pot"] (defScope (topS 53)) := ⟨rfl, rfl, rfl, by decide +kernel, rfl, by decide +kernel, by decide +kernel⟩
theorem sc__law_chip_page : FnScope ["pot", "row", "lap"] ["pot"] (defScope (topS 54)) := ⟨rfl, rfl, rfl, by decide +kernel, rfl, by decide +kernel, by decide +kernel⟩
theorem sc__law_is_raised : FnScope ["call", "due", "caught", "marks", "word"] ["call", "due"] (defScope (topS 55)) := ⟨rfl, rfl, rfl, by decide +kernel, rfl, by decide +kernel, by decide +kernel⟩
theorem sc__law_are_sizes_right : FnScope ["pot", "lap", "blocks", "pages", "good", "some", "faults", "due"] ["pot"] (defScope (topS 56)) := ⟨rfl, rfl, rfl, by decide +kernel, rfl, by decide +kernel, by decide +kernel⟩
theorem sc__law_write_due : FnScope ["own", "place", "cells"] ["own", "place", "cells"] (defScope (topS 57)) := ⟨rfl, rfl, rfl, by decide +kernel, rfl, by decide +kernel, by decide +kernel⟩
theorem sc__law_fault_drawn : FnScope ["pot", "ahead", "word"] ["pot"] (defScope (topS 58)) := ⟨rfl, rfl, rfl, by decide +kernel, rfl, by decide +kernel, by decide +kernel⟩
theorem sc__law_fault_due : FnScope ["own", "told", "ahead", "word", "pattern", "later", "at", "its", "cells"] ["own", "told"] (defScope (topS 59)) := ⟨rfl, rfl, rfl, by decide +kernel, rfl, by decide +kernel, by decide +kernel⟩
theorem sc__law_is_fault_right : FnScope ["pot", "chip", "own", "told", "due", "is_right", "later"] ["pot", "chip", "own"] (defScope (topS 60)) := ⟨rfl, rfl, rfl, by decide +kernel, rfl, by decide +kernel, by decide +kernel⟩
theorem sc__law_right : FnScope ["pot", "faults", "page", "chip", "own", "lap", "place", "cells", "way", "due", "told", "is_right", "block", "cell", "sign"] ["pot"] (defScope (topS 61)) := ⟨rfl, rfl, rfl, by decide +kernel, rfl, by decide +kernel, by decide +kernel⟩
theorem sc_law : FnScope ["script", "place"] ["script"] (defScope (topS 62)) := ⟨rfl, rfl, rfl, by decide +kernel, rfl, by decide +kernel, by decide +kernel⟩
structure Tx (P : Program) (K : PySem.W.Frag) (mg : Str → Option Value) where
  a_is_whole : Addr
  d_is_whole : FuncData
  F_is_whole : Fun K "is_whole" "is_whole" (topS 4) a_is_whole d_is_whole
  b_is_whole : Binds K d_is_whole ["value"] []
  m_is_whole : mg "is_whole" = some (.ref a_is_whole)
  a_is_integer : Addr
  d_is_integer : FuncData
  F_is_integer : Fun K "is_integer" "is_integer" (topS 5) a_is_integer d_is_integer
  b_is_integer : Binds K d_is_integer ["value", "low", "high"] []
  m_is_integer : mg "is_integer" = some (.ref a_is_integer)
  a_is_tuple : Addr
  d_is_tuple : FuncData
  F_is_tuple : Fun K "is_tuple" "is_tuple" (topS 6) a_is_tuple d_is_tuple
  b_is_tuple : Binds K d_is_tuple ["value", "low", "high"] []
  m_is_tuple : mg "is_tuple" = some (.ref a_is_tuple)
  a_is_string : Addr
  d_is_string : FuncData
  F_is_string : Fun K "is_string" "is_string" (topS 7) a_is_string d_is_string
  b_is_string : Binds K d_is_string ["value", "some"] []
  m_is_string : mg "is_string" = some (.ref a_is_string)
  a_are_cells : Addr
  d_are_cells : FuncData
  F_are_cells : Fun K "are_cells" "are_cells" (topS 8) a_are_cells d_are_cells
  b_are_cells : Binds K d_are_cells ["value", "low", "high"] []
  m_are_cells : mg "are_cells" = some (.ref a_are_cells)
  a_is_page : Addr
  d_is_page : FuncData
  F_is_page : Fun K "is_page" "is_page" (topS 9) a_is_page d_is_page
  b_is_page : Binds K d_is_page ["value"] []
  m_is_page : mg "is_page" = some (.ref a_is_page)
  a_is_fault : Addr
  d_is_fault : FuncData
  F_is_fault : Fun K "is_fault" "is_fault" (topS 31) a_is_fault d_is_fault
  b_is_fault : Binds K d_is_fault ["value"] []
  m_is_fault : mg "is_fault" = some (.ref a_is_fault)
  a_are_faults : Addr
  d_are_faults : FuncData
  F_are_faults : Fun K "are_faults" "are_faults" (topS 32) a_are_faults d_are_faults
  b_are_faults : Binds K d_are_faults ["value"] []
  m_are_faults : mg "are_faults" = some (.ref a_are_faults)
  a_torn : Addr
  d_torn : FuncData
  F_torn : Fun K "torn" "torn" (topS 33) a_torn d_torn
  b_torn : Binds K d_torn ["cells", "pattern"] []
  m_torn : mg "torn" = some (.ref a_torn)
  a_Chip___init__ : Addr
  d_Chip___init__ : FuncData
  F_Chip___init__ : FunA K "__init__" "Chip.__init__" (inClass (topS 34) 1) a_Chip___init__ d_Chip___init__
  b_Chip___init__ : Binds K d_Chip___init__ ["self", "blocks", "pages", "faults"] []
  a_Chip_blocks : Addr
  d_Chip_blocks : FuncData
  F_Chip_blocks : Fun K "blocks" "Chip.blocks" (inClass (topS 34) 2) a_Chip_blocks d_Chip_blocks
  b_Chip_blocks : Binds K d_Chip_blocks ["self"] []
  a_Chip_pages : Addr
  d_Chip_pages : FuncData
  F_Chip_pages : Fun K "pages" "Chip.pages" (inClass (topS 34) 3) a_Chip_pages d_Chip_pages
  b_Chip_pages : Binds K d_Chip_pages ["self"] []
  a_Chip_wear : Addr
  d_Chip_wear : FuncData
  F_Chip_wear : Fun K "wear" "Chip.wear" (inClass (topS 34) 4) a_Chip_wear d_Chip_wear
  b_Chip_wear : Binds K d_Chip_wear ["self"] []
  a_Chip_bad : Addr
  d_Chip_bad : FuncData
  F_Chip_bad : Fun K "bad" "Chip.bad" (inClass (topS 34) 5) a_Chip_bad d_Chip_bad
  b_Chip_bad : Binds K d_Chip_bad ["self"] []
  a_Chip_done : Addr
  d_Chip_done : FuncData
  F_Chip_done : Fun K "done" "Chip.done" (inClass (topS 34) 6) a_Chip_done d_Chip_done
  b_Chip_done : Binds K d_Chip_done ["self"] []
  a_Chip_cuts : Addr
  d_Chip_cuts : FuncData
  F_Chip_cuts : Fun K "cuts" "Chip.cuts" (inClass (topS 34) 7) a_Chip_cuts d_Chip_cuts
  b_Chip_cuts : Binds K d_Chip_cuts ["self"] []
  a_Chip_is_on : Addr
  d_Chip_is_on : FuncData
  F_Chip_is_on : Fun K "is_on" "Chip.is_on" (inClass (topS 34) 8) a_Chip_is_on d_Chip_is_on
  b_Chip_is_on : Binds K d_Chip_is_on ["self"] []
  a_Chip___eq__ : Addr
  d_Chip___eq__ : FuncData
  F_Chip___eq__ : Fun K "__eq__" "Chip.__eq__" (inClass (topS 34) 9) a_Chip___eq__ d_Chip___eq__
  b_Chip___eq__ : Binds K d_Chip___eq__ ["self", "other"] []
  a_Chip_check_page : Addr
  d_Chip_check_page : FuncData
  F_Chip_check_page : Fun K "check_page" "Chip.check_page" (inClass (topS 34) 11) a_Chip_check_page d_Chip_check_page
  b_Chip_check_page : Binds K d_Chip_check_page ["self", "place"] []
  a_Chip_read : Addr
  d_Chip_read : FuncData
  F_Chip_read : Fun K "read" "Chip.read" (inClass (topS 34) 12) a_Chip_read d_Chip_read
  b_Chip_read : Binds K d_Chip_read ["self", "place"] []
  a_Chip_begin_deed : Addr
  d_Chip_begin_deed : FuncData
  F_Chip_begin_deed : Fun K "begin_deed" "Chip.begin_deed" (inClass (topS 34) 13) a_Chip_begin_deed d_Chip_begin_deed
  b_Chip_begin_deed : Binds K d_Chip_begin_deed ["self"] []
  a_Chip_end_deed : Addr
  d_Chip_end_deed : FuncData
  F_Chip_end_deed : Fun K "end_deed" "Chip.end_deed" (inClass (topS 34) 14) a_Chip_end_deed d_Chip_end_deed
  b_Chip_end_deed : Binds K d_Chip_end_deed ["self", "block", "word"] []
  a_Chip_write : Addr
  d_Chip_write : FuncData
  F_Chip_write : Fun K "write" "Chip.write" (inClass (topS 34) 15) a_Chip_write d_Chip_write
  b_Chip_write : Binds K d_Chip_write ["self", "place", "cells"] []
  a_Chip_erase : Addr
  d_Chip_erase : FuncData
  F_Chip_erase : Fun K "erase" "Chip.erase" (inClass (topS 34) 16) a_Chip_erase d_Chip_erase
  b_Chip_erase : Binds K d_Chip_erase ["self", "block"] []
  a_Chip_fault : Addr
  d_Chip_fault : FuncData
  F_Chip_fault : Fun K "fault" "Chip.fault" (inClass (topS 34) 18) a_Chip_fault d_Chip_fault
  b_Chip_fault : Binds K d_Chip_fault ["self", "ahead", "word", "pattern"] []
  a_Chip_can_fade : Addr
  d_Chip_can_fade : FuncData
  F_Chip_can_fade : Fun K "can_fade" "Chip.can_fade" (inClass (topS 34) 19) a_Chip_can_fade d_Chip_can_fade
  b_Chip_can_fade : Binds K d_Chip_can_fade ["self", "place", "cell", "sign"] []
  a_Chip_fade : Addr
  d_Chip_fade : FuncData
  F_Chip_fade : Fun K "fade" "Chip.fade" (inClass (topS 34) 20) a_Chip_fade d_Chip_fade
  b_Chip_fade : Binds K d_Chip_fade ["self", "place", "cell", "sign"] []
  a_Chip_image : Addr
  d_Chip_image : FuncData
  F_Chip_image : Fun K "image" "Chip.image" (inClass (topS 34) 21) a_Chip_image d_Chip_image
  b_Chip_image : Binds K d_Chip_image ["self"] []
  a__law_pot : Addr
  d__law_pot : FuncData
  F__law_pot : Fun K "_law_pot" "_law_pot" (topS 36) a__law_pot d__law_pot
  b__law_pot : Binds K d__law_pot ["script", "place"] []
  m__law_pot : mg "_law_pot" = some (.ref a__law_pot)
  a__law_take : Addr
  d__law_take : FuncData
  F__law_take : Fun K "_law_take" "_law_take" (topS 37) a__law_take d__law_take
  b__law_take : Binds K d__law_take ["pot", "upto"] []
  m__law_take : mg "_law_take" = some (.ref a__law_take)
  a__law_of : Addr
  d__law_of : FuncData
  F__law_of : Fun K "_law_of" "_law_of" (topS 38) a__law_of d__law_of
  b__law_of : Binds K d__law_of ["pot", "some"] []
  m__law_of : mg "_law_of" = some (.ref a__law_of)
  a__law_cells : Addr
  d__law_cells : FuncData
  F__law_cells : Fun K "_law_cells" "_law_cells" (topS 39) a__law_cells d__law_cells
  b__law_cells : Binds K d__law_cells ["script", "most"] []
  m__law_cells : mg "_law_cells" = some (.ref a__law_cells)
  a__law_heard : Addr
  d__law_heard : FuncData
  F__law_heard : Fun K "_law_heard" "_law_heard" (topS 40) a__law_heard d__law_heard
  b__law_heard : Binds K d__law_heard ["call"] []
  m__law_heard : mg "_law_heard" = some (.ref a__law_heard)
  a__law_is_int : Addr
  d__law_is_int : FuncData
  F__law_is_int : Fun K "_law_is_int" "_law_is_int" (topS 41) a__law_is_int d__law_is_int
  b__law_is_int : Binds K d__law_is_int ["value", "low", "high"] []
  m__law_is_int : mg "_law_is_int" = some (.ref a__law_is_int)
  a__law_chip_begun : Addr
  d__law_chip_begun : FuncData
  F__law_chip_begun : Fun K "_law_chip_begun" "_law_chip_begun" (topS 42) a__law_chip_begun d__law_chip_begun
  b__law_chip_begun : Binds K d__law_chip_begun ["blocks", "pages", "faults"] []
  m__law_chip_begun : mg "_law_chip_begun" = some (.ref a__law_chip_begun)
  a__law_chip_is_cells : Addr
  d__law_chip_is_cells : FuncData
  F__law_chip_is_cells : Fun K "_law_chip_is_cells" "_law_chip_is_cells" (topS 43) a__law_chip_is_cells d__law_chip_is_cells
  b__law_chip_is_cells : Binds K d__law_chip_is_cells ["value", "low", "high"] []
  m__law_chip_is_cells : mg "_law_chip_is_cells" = some (.ref a__law_chip_is_cells)
  a__law_chip_are_faults : Addr
  d__law_chip_are_faults : FuncData
  F__law_chip_are_faults : Fun K "_law_chip_are_faults" "_law_chip_are_faults" (topS 44) a__law_chip_are_faults d__law_chip_are_faults
  b__law_chip_are_faults : Binds K d__law_chip_are_faults ["value"] []
  m__law_chip_are_faults : mg "_law_chip_are_faults" = some (.ref a__law_chip_are_faults)
  a__law_chip_torn : Addr
  d__law_chip_torn : FuncData
  F__law_chip_torn : Fun K "_law_chip_torn" "_law_chip_torn" (topS 45) a__law_chip_torn d__law_chip_torn
  b__law_chip_torn : Binds K d__law_chip_torn ["cells", "pattern"] []
  m__law_chip_torn : mg "_law_chip_torn" = some (.ref a__law_chip_torn)
  a__law_chip_fault : Addr
  d__law_chip_fault : FuncData
  F__law_chip_fault : Fun K "_law_chip_fault" "_law_chip_fault" (topS 46) a__law_chip_fault d__law_chip_fault
  b__law_chip_fault : Binds K d__law_chip_fault ["own"] []
  m__law_chip_fault : mg "_law_chip_fault" = some (.ref a__law_chip_fault)
  a__law_chip_deed : Addr
  d__law_chip_deed : FuncData
  F__law_chip_deed : Fun K "_law_chip_deed" "_law_chip_deed" (topS 47) a__law_chip_deed d__law_chip_deed
  b__law_chip_deed : Binds K d__law_chip_deed ["own", "block", "word"] []
  m__law_chip_deed : mg "_law_chip_deed" = some (.ref a__law_chip_deed)
  a__law_chip_written : Addr
  d__law_chip_written : FuncData
  F__law_chip_written : Fun K "_law_chip_written" "_law_chip_written" (topS 48) a__law_chip_written d__law_chip_written
  b__law_chip_written : Binds K d__law_chip_written ["own", "place", "cells"] []
  m__law_chip_written : mg "_law_chip_written" = some (.ref a__law_chip_written)
  a__law_chip_erased : Addr
  d__law_chip_erased : FuncData
  F__law_chip_erased : Fun K "_law_chip_erased" "_law_chip_erased" (topS 49) a__law_chip_erased d__law_chip_erased
  b__law_chip_erased : Binds K d__law_chip_erased ["own", "block"] []
  m__law_chip_erased : mg "_law_chip_erased" = some (.ref a__law_chip_erased)
  a__law_chip_can_fade : Addr
  d__law_chip_can_fade : FuncData
  F__law_chip_can_fade : Fun K "_law_chip_can_fade" "_law_chip_can_fade" (topS 50) a__law_chip_can_fade d__law_chip_can_fade
  b__law_chip_can_fade : Binds K d__law_chip_can_fade ["own", "place", "cell", "sign"] []
  m__law_chip_can_fade : mg "_law_chip_can_fade" = some (.ref a__law_chip_can_fade)
  a__law_chip_faded : Addr
  d__law_chip_faded : FuncData
  F__law_chip_faded : Fun K "_law_chip_faded" "_law_chip_faded" (topS 51) a__law_chip_faded d__law_chip_faded
  b__law_chip_faded : Binds K d__law_chip_faded ["own", "place", "cell", "sign"] []
  m__law_chip_faded : mg "_law_chip_faded" = some (.ref a__law_chip_faded)
  a__law_chip_is_told : Addr
  d__law_chip_is_told : FuncData
  F__law_chip_is_told : Fun K "_law_chip_is_told" "_law_chip_is_told" (topS 52) a__law_chip_is_told d__law_chip_is_told
  b__law_chip_is_told : Binds K d__law_chip_is_told ["chip", "own"] []
  m__law_chip_is_told : mg "_law_chip_is_told" = some (.ref a__law_chip_is_told)
  a__law_chip_pattern : Addr
  d__law_chip_pattern : FuncData
  F__law_chip_pattern : Fun K "_law_chip_pattern" "_law_chip_pattern" (topS 53) a__law_chip_pattern d__law_chip_pattern
  b__law_chip_pattern : Binds K d__law_chip_pattern ["pot"] []
  m__law_chip_pattern : mg "_law_chip_pattern" = some (.ref a__law_chip_pattern)
  a__law_chip_page : Addr
  d__law_chip_page : FuncData
  F__law_chip_page : Fun K "_law_chip_page" "_law_chip_page" (topS 54) a__law_chip_page d__law_chip_page
  b__law_chip_page : Binds K d__law_chip_page ["pot"] []
  m__law_chip_page : mg "_law_chip_page" = some (.ref a__law_chip_page)
  a__law_is_raised : Addr
  d__law_is_raised : FuncData
  F__law_is_raised : Fun K "_law_is_raised" "_law_is_raised" (topS 55) a__law_is_raised d__law_is_raised
  b__law_is_raised : Binds K d__law_is_raised ["call", "due"] []
  m__law_is_raised : mg "_law_is_raised" = some (.ref a__law_is_raised)
  a__law_are_sizes_right : Addr
  d__law_are_sizes_right : FuncData
  F__law_are_sizes_right : Fun K "_law_are_sizes_right" "_law_are_sizes_right" (topS 56) a__law_are_sizes_right d__law_are_sizes_right
  b__law_are_sizes_right : Binds K d__law_are_sizes_right ["pot"] []
  m__law_are_sizes_right : mg "_law_are_sizes_right" = some (.ref a__law_are_sizes_right)
  q__law_are_sizes_right : Addr
  t__law_are_sizes_right : Addr
  c__law_are_sizes_right : d__law_are_sizes_right.code = .ref q__law_are_sizes_right
  a__law_write_due : Addr
  d__law_write_due : FuncData
  F__law_write_due : Fun K "_law_write_due" "_law_write_due" (topS 57) a__law_write_due d__law_write_due
  b__law_write_due : Binds K d__law_write_due ["own", "place", "cells"] []
  m__law_write_due : mg "_law_write_due" = some (.ref a__law_write_due)
  a__law_fault_drawn : Addr
  d__law_fault_drawn : FuncData
  F__law_fault_drawn : Fun K "_law_fault_drawn" "_law_fault_drawn" (topS 58) a__law_fault_drawn d__law_fault_drawn
  b__law_fault_drawn : Binds K d__law_fault_drawn ["pot"] []
  m__law_fault_drawn : mg "_law_fault_drawn" = some (.ref a__law_fault_drawn)
  a__law_fault_due : Addr
  d__law_fault_due : FuncData
  F__law_fault_due : Fun K "_law_fault_due" "_law_fault_due" (topS 59) a__law_fault_due d__law_fault_due
  b__law_fault_due : Binds K d__law_fault_due ["own", "told"] []
  m__law_fault_due : mg "_law_fault_due" = some (.ref a__law_fault_due)
  a__law_is_fault_right : Addr
  d__law_is_fault_right : FuncData
  F__law_is_fault_right : Fun K "_law_is_fault_right" "_law_is_fault_right" (topS 60) a__law_is_fault_right d__law_is_fault_right
  b__law_is_fault_right : Binds K d__law_is_fault_right ["pot", "chip", "own"] []
  m__law_is_fault_right : mg "_law_is_fault_right" = some (.ref a__law_is_fault_right)
  q__law_is_fault_right : Addr
  t__law_is_fault_right : Addr
  c__law_is_fault_right : d__law_is_fault_right.code = .ref q__law_is_fault_right
  a__law_right : Addr
  d__law_right : FuncData
  F__law_right : Fun K "_law_right" "_law_right" (topS 61) a__law_right d__law_right
  b__law_right : Binds K d__law_right ["pot"] []
  m__law_right : mg "_law_right" = some (.ref a__law_right)
  q__law_right : Addr
  t__law_right : Addr
  c__law_right : d__law_right.code = .ref q__law_right
  a_law : Addr
  d_law : FuncData
  F_law : Fun K "law" "law" (topS 62) a_law d_law
  b_law : Binds K d_law ["script"] []
  m_law : mg "law" = some (.ref a_law)
  aD : Addr
  fI : Addr
  cc : Addr
  TD : Told.TxtD P K mg aD fI cc
  mD : mg "ToldError" = some (.ref aD)
  TG : Told.TxtG K
  e_BadBlock : Addr
  m_BadBlock : mg "BadBlock" = some (.ref e_BadBlock)
  T_BadBlock : Told.TxtC K aD fI e_BadBlock
  I_BadBlock : Told.TxtI K e_BadBlock
  x_BadBlock : PySem.W.exmOne K (.ref e_BadBlock) (.ref aD) = some true
  e_BadCells : Addr
  m_BadCells : mg "BadCells" = some (.ref e_BadCells)
  T_BadCells : Told.TxtC K aD fI e_BadCells
  I_BadCells : Told.TxtI K e_BadCells
  x_BadCells : PySem.W.exmOne K (.ref e_BadCells) (.ref aD) = some true
  e_BadFade : Addr
  m_BadFade : mg "BadFade" = some (.ref e_BadFade)
  T_BadFade : Told.TxtC K aD fI e_BadFade
  I_BadFade : Told.TxtI K e_BadFade
  x_BadFade : PySem.W.exmOne K (.ref e_BadFade) (.ref aD) = some true
  e_BadFault : Addr
  m_BadFault : mg "BadFault" = some (.ref e_BadFault)
  T_BadFault : Told.TxtC K aD fI e_BadFault
  I_BadFault : Told.TxtI K e_BadFault
  x_BadFault : PySem.W.exmOne K (.ref e_BadFault) (.ref aD) = some true
  e_BadFaults : Addr
  m_BadFaults : mg "BadFaults" = some (.ref e_BadFaults)
  T_BadFaults : Told.TxtC K aD fI e_BadFaults
  I_BadFaults : Told.TxtI K e_BadFaults
  x_BadFaults : PySem.W.exmOne K (.ref e_BadFaults) (.ref aD) = some true
  e_BadPlace : Addr
  m_BadPlace : mg "BadPlace" = some (.ref e_BadPlace)
  T_BadPlace : Told.TxtC K aD fI e_BadPlace
  I_BadPlace : Told.TxtI K e_BadPlace
  x_BadPlace : PySem.W.exmOne K (.ref e_BadPlace) (.ref aD) = some true
  e_BadSize : Addr
  m_BadSize : mg "BadSize" = some (.ref e_BadSize)
  T_BadSize : Told.TxtC K aD fI e_BadSize
  I_BadSize : Told.TxtI K e_BadSize
  x_BadSize : PySem.W.exmOne K (.ref e_BadSize) (.ref aD) = some true
  e_Cut : Addr
  m_Cut : mg "Cut" = some (.ref e_Cut)
  T_Cut : Told.TxtC K aD fI e_Cut
  I_Cut : Told.TxtI K e_Cut
  x_Cut : PySem.W.exmOne K (.ref e_Cut) (.ref aD) = some true
  e_NotEmpty : Addr
  m_NotEmpty : mg "NotEmpty" = some (.ref e_NotEmpty)
  T_NotEmpty : Told.TxtC K aD fI e_NotEmpty
  I_NotEmpty : Told.TxtI K e_NotEmpty
  x_NotEmpty : PySem.W.exmOne K (.ref e_NotEmpty) (.ref aD) = some true
  e_Pending : Addr
  m_Pending : mg "Pending" = some (.ref e_Pending)
  T_Pending : Told.TxtC K aD fI e_Pending
  I_Pending : Told.TxtI K e_Pending
  x_Pending : PySem.W.exmOne K (.ref e_Pending) (.ref aD) = some true
  k_BadBlock_BadBlock : PySem.W.kitOne K (.ref e_BadBlock) (.ref e_BadBlock) = some true
  k_BadBlock_BadCells : PySem.W.kitOne K (.ref e_BadBlock) (.ref e_BadCells) = some false
  k_BadBlock_BadFade : PySem.W.kitOne K (.ref e_BadBlock) (.ref e_BadFade) = some false
  k_BadBlock_BadFault : PySem.W.kitOne K (.ref e_BadBlock) (.ref e_BadFault) = some false
  k_BadBlock_BadFaults : PySem.W.kitOne K (.ref e_BadBlock) (.ref e_BadFaults) = some false
  k_BadBlock_BadPlace : PySem.W.kitOne K (.ref e_BadBlock) (.ref e_BadPlace) = some false
  k_BadBlock_BadSize : PySem.W.kitOne K (.ref e_BadBlock) (.ref e_BadSize) = some false
  k_BadBlock_Cut : PySem.W.kitOne K (.ref e_BadBlock) (.ref e_Cut) = some false
  k_BadBlock_NotEmpty : PySem.W.kitOne K (.ref e_BadBlock) (.ref e_NotEmpty) = some false
  k_BadBlock_Pending : PySem.W.kitOne K (.ref e_BadBlock) (.ref e_Pending) = some false
  k_BadCells_BadBlock : PySem.W.kitOne K (.ref e_BadCells) (.ref e_BadBlock) = some false
  k_BadCells_BadCells : PySem.W.kitOne K (.ref e_BadCells) (.ref e_BadCells) = some true
  k_BadCells_BadFade : PySem.W.kitOne K (.ref e_BadCells) (.ref e_BadFade) = some false
  k_BadCells_BadFault : PySem.W.kitOne K (.ref e_BadCells) (.ref e_BadFault) = some false
  k_BadCells_BadFaults : PySem.W.kitOne K (.ref e_BadCells) (.ref e_BadFaults) = some false
  k_BadCells_BadPlace : PySem.W.kitOne K (.ref e_BadCells) (.ref e_BadPlace) = some false
  k_BadCells_BadSize : PySem.W.kitOne K (.ref e_BadCells) (.ref e_BadSize) = some false
  k_BadCells_Cut : PySem.W.kitOne K (.ref e_BadCells) (.ref e_Cut) = some false
  k_BadCells_NotEmpty : PySem.W.kitOne K (.ref e_BadCells) (.ref e_NotEmpty) = some false
  k_BadCells_Pending : PySem.W.kitOne K (.ref e_BadCells) (.ref e_Pending) = some false
  k_BadFade_BadBlock : PySem.W.kitOne K (.ref e_BadFade) (.ref e_BadBlock) = some false
  k_BadFade_BadCells : PySem.W.kitOne K (.ref e_BadFade) (.ref e_BadCells) = some false
  k_BadFade_BadFade : PySem.W.kitOne K (.ref e_BadFade) (.ref e_BadFade) = some true
  k_BadFade_BadFault : PySem.W.kitOne K (.ref e_BadFade) (.ref e_BadFault) = some false
  k_BadFade_BadFaults : PySem.W.kitOne K (.ref e_BadFade) (.ref e_BadFaults) = some false
  k_BadFade_BadPlace : PySem.W.kitOne K (.ref e_BadFade) (.ref e_BadPlace) = some false
  k_BadFade_BadSize : PySem.W.kitOne K (.ref e_BadFade) (.ref e_BadSize) = some false
  k_BadFade_Cut : PySem.W.kitOne K (.ref e_BadFade) (.ref e_Cut) = some false
  k_BadFade_NotEmpty : PySem.W.kitOne K (.ref e_BadFade) (.ref e_NotEmpty) = some false
  k_BadFade_Pending : PySem.W.kitOne K (.ref e_BadFade) (.ref e_Pending) = some false
  k_BadFault_BadBlock : PySem.W.kitOne K (.ref e_BadFault) (.ref e_BadBlock) = some false
  k_BadFault_BadCells : PySem.W.kitOne K (.ref e_BadFault) (.ref e_BadCells) = some false
  k_BadFault_BadFade : PySem.W.kitOne K (.ref e_BadFault) (.ref e_BadFade) = some false
  k_BadFault_BadFault : PySem.W.kitOne K (.ref e_BadFault) (.ref e_BadFault) = some true
  k_BadFault_BadFaults : PySem.W.kitOne K (.ref e_BadFault) (.ref e_BadFaults) = some false
  k_BadFault_BadPlace : PySem.W.kitOne K (.ref e_BadFault) (.ref e_BadPlace) = some false
  k_BadFault_BadSize : PySem.W.kitOne K (.ref e_BadFault) (.ref e_BadSize) = some false
  k_BadFault_Cut : PySem.W.kitOne K (.ref e_BadFault) (.ref e_Cut) = some false
  k_BadFault_NotEmpty : PySem.W.kitOne K (.ref e_BadFault) (.ref e_NotEmpty) = some false
  k_BadFault_Pending : PySem.W.kitOne K (.ref e_BadFault) (.ref e_Pending) = some false
  k_BadFaults_BadBlock : PySem.W.kitOne K (.ref e_BadFaults) (.ref e_BadBlock) = some false
  k_BadFaults_BadCells : PySem.W.kitOne K (.ref e_BadFaults) (.ref e_BadCells) = some false
  k_BadFaults_BadFade : PySem.W.kitOne K (.ref e_BadFaults) (.ref e_BadFade) = some false
  k_BadFaults_BadFault : PySem.W.kitOne K (.ref e_BadFaults) (.ref e_BadFault) = some false
  k_BadFaults_BadFaults : PySem.W.kitOne K (.ref e_BadFaults) (.ref e_BadFaults) = some true
  k_BadFaults_BadPlace : PySem.W.kitOne K (.ref e_BadFaults) (.ref e_BadPlace) = some false
  k_BadFaults_BadSize : PySem.W.kitOne K (.ref e_BadFaults) (.ref e_BadSize) = some false
  k_BadFaults_Cut : PySem.W.kitOne K (.ref e_BadFaults) (.ref e_Cut) = some false
  k_BadFaults_NotEmpty : PySem.W.kitOne K (.ref e_BadFaults) (.ref e_NotEmpty) = some false
  k_BadFaults_Pending : PySem.W.kitOne K (.ref e_BadFaults) (.ref e_Pending) = some false
  k_BadPlace_BadBlock : PySem.W.kitOne K (.ref e_BadPlace) (.ref e_BadBlock) = some false
  k_BadPlace_BadCells : PySem.W.kitOne K (.ref e_BadPlace) (.ref e_BadCells) = some false
  k_BadPlace_BadFade : PySem.W.kitOne K (.ref e_BadPlace) (.ref e_BadFade) = some false
  k_BadPlace_BadFault : PySem.W.kitOne K (.ref e_BadPlace) (.ref e_BadFault) = some false
  k_BadPlace_BadFaults : PySem.W.kitOne K (.ref e_BadPlace) (.ref e_BadFaults) = some false
  k_BadPlace_BadPlace : PySem.W.kitOne K (.ref e_BadPlace) (.ref e_BadPlace) = some true
  k_BadPlace_BadSize : PySem.W.kitOne K (.ref e_BadPlace) (.ref e_BadSize) = some false
  k_BadPlace_Cut : PySem.W.kitOne K (.ref e_BadPlace) (.ref e_Cut) = some false
  k_BadPlace_NotEmpty : PySem.W.kitOne K (.ref e_BadPlace) (.ref e_NotEmpty) = some false
  k_BadPlace_Pending : PySem.W.kitOne K (.ref e_BadPlace) (.ref e_Pending) = some false
  k_BadSize_BadBlock : PySem.W.kitOne K (.ref e_BadSize) (.ref e_BadBlock) = some false
  k_BadSize_BadCells : PySem.W.kitOne K (.ref e_BadSize) (.ref e_BadCells) = some false
  k_BadSize_BadFade : PySem.W.kitOne K (.ref e_BadSize) (.ref e_BadFade) = some false
  k_BadSize_BadFault : PySem.W.kitOne K (.ref e_BadSize) (.ref e_BadFault) = some false
  k_BadSize_BadFaults : PySem.W.kitOne K (.ref e_BadSize) (.ref e_BadFaults) = some false
  k_BadSize_BadPlace : PySem.W.kitOne K (.ref e_BadSize) (.ref e_BadPlace) = some false
  k_BadSize_BadSize : PySem.W.kitOne K (.ref e_BadSize) (.ref e_BadSize) = some true
  k_BadSize_Cut : PySem.W.kitOne K (.ref e_BadSize) (.ref e_Cut) = some false
  k_BadSize_NotEmpty : PySem.W.kitOne K (.ref e_BadSize) (.ref e_NotEmpty) = some false
  k_BadSize_Pending : PySem.W.kitOne K (.ref e_BadSize) (.ref e_Pending) = some false
  k_Cut_BadBlock : PySem.W.kitOne K (.ref e_Cut) (.ref e_BadBlock) = some false
  k_Cut_BadCells : PySem.W.kitOne K (.ref e_Cut) (.ref e_BadCells) = some false
  k_Cut_BadFade : PySem.W.kitOne K (.ref e_Cut) (.ref e_BadFade) = some false
  k_Cut_BadFault : PySem.W.kitOne K (.ref e_Cut) (.ref e_BadFault) = some false
  k_Cut_BadFaults : PySem.W.kitOne K (.ref e_Cut) (.ref e_BadFaults) = some false
  k_Cut_BadPlace : PySem.W.kitOne K (.ref e_Cut) (.ref e_BadPlace) = some false
  k_Cut_BadSize : PySem.W.kitOne K (.ref e_Cut) (.ref e_BadSize) = some false
  k_Cut_Cut : PySem.W.kitOne K (.ref e_Cut) (.ref e_Cut) = some true
  k_Cut_NotEmpty : PySem.W.kitOne K (.ref e_Cut) (.ref e_NotEmpty) = some false
  k_Cut_Pending : PySem.W.kitOne K (.ref e_Cut) (.ref e_Pending) = some false
  k_NotEmpty_BadBlock : PySem.W.kitOne K (.ref e_NotEmpty) (.ref e_BadBlock) = some false
  k_NotEmpty_BadCells : PySem.W.kitOne K (.ref e_NotEmpty) (.ref e_BadCells) = some false
  k_NotEmpty_BadFade : PySem.W.kitOne K (.ref e_NotEmpty) (.ref e_BadFade) = some false
  k_NotEmpty_BadFault : PySem.W.kitOne K (.ref e_NotEmpty) (.ref e_BadFault) = some false
  k_NotEmpty_BadFaults : PySem.W.kitOne K (.ref e_NotEmpty) (.ref e_BadFaults) = some false
  k_NotEmpty_BadPlace : PySem.W.kitOne K (.ref e_NotEmpty) (.ref e_BadPlace) = some false
  k_NotEmpty_BadSize : PySem.W.kitOne K (.ref e_NotEmpty) (.ref e_BadSize) = some false
  k_NotEmpty_Cut : PySem.W.kitOne K (.ref e_NotEmpty) (.ref e_Cut) = some false
  k_NotEmpty_NotEmpty : PySem.W.kitOne K (.ref e_NotEmpty) (.ref e_NotEmpty) = some true
  k_NotEmpty_Pending : PySem.W.kitOne K (.ref e_NotEmpty) (.ref e_Pending) = some false
  k_Pending_BadBlock : PySem.W.kitOne K (.ref e_Pending) (.ref e_BadBlock) = some false
  k_Pending_BadCells : PySem.W.kitOne K (.ref e_Pending) (.ref e_BadCells) = some false
  k_Pending_BadFade : PySem.W.kitOne K (.ref e_Pending) (.ref e_BadFade) = some false
  k_Pending_BadFault : PySem.W.kitOne K (.ref e_Pending) (.ref e_BadFault) = some false
  k_Pending_BadFaults : PySem.W.kitOne K (.ref e_Pending) (.ref e_BadFaults) = some false
  k_Pending_BadPlace : PySem.W.kitOne K (.ref e_Pending) (.ref e_BadPlace) = some false
  k_Pending_BadSize : PySem.W.kitOne K (.ref e_Pending) (.ref e_BadSize) = some false
  k_Pending_Cut : PySem.W.kitOne K (.ref e_Pending) (.ref e_Cut) = some false
  k_Pending_NotEmpty : PySem.W.kitOne K (.ref e_Pending) (.ref e_NotEmpty) = some false
  k_Pending_Pending : PySem.W.kitOne K (.ref e_Pending) (.ref e_Pending) = some true
  o_Chip : Addr
  m_Chip : mg "Chip" = some (.ref o_Chip)
  S_Chip : SlX.SCls K o_Chip
  p_Chip_own_bad : Addr
  s_Chip_own_bad : SlX.Slot1 K o_Chip "own_bad" p_Chip_own_bad 0
  p_Chip_own_blocks : Addr
  s_Chip_own_blocks : SlX.Slot1 K o_Chip "own_blocks" p_Chip_own_blocks 1
  p_Chip_own_cells : Addr
  s_Chip_own_cells : SlX.Slot1 K o_Chip "own_cells" p_Chip_own_cells 2
  p_Chip_own_cuts : Addr
  s_Chip_own_cuts : SlX.Slot1 K o_Chip "own_cuts" p_Chip_own_cuts 3
  p_Chip_own_done : Addr
  s_Chip_own_done : SlX.Slot1 K o_Chip "own_done" p_Chip_own_done 4
  p_Chip_own_faults : Addr
  s_Chip_own_faults : SlX.Slot1 K o_Chip "own_faults" p_Chip_own_faults 5
  p_Chip_own_is_on : Addr
  s_Chip_own_is_on : SlX.Slot1 K o_Chip "own_is_on" p_Chip_own_is_on 6
  p_Chip_own_pages : Addr
  s_Chip_own_pages : SlX.Slot1 K o_Chip "own_pages" p_Chip_own_pages 7
  p_Chip_own_wear : Addr
  s_Chip_own_wear : SlX.Slot1 K o_Chip "own_wear" p_Chip_own_wear 8
  p_Chip_own_written : Addr
  s_Chip_own_written : SlX.Slot1 K o_Chip "own_written" p_Chip_own_written 9
  M_Chip : Mk K o_Chip a_Chip___init__
  M_Chip_blocks : Prp K o_Chip "blocks" a_Chip_blocks
  M_Chip_pages : Prp K o_Chip "pages" a_Chip_pages
  M_Chip_wear : Prp K o_Chip "wear" a_Chip_wear
  M_Chip_bad : Prp K o_Chip "bad" a_Chip_bad
  M_Chip_done : Prp K o_Chip "done" a_Chip_done
  M_Chip_cuts : Prp K o_Chip "cuts" a_Chip_cuts
  M_Chip_is_on : Prp K o_Chip "is_on" a_Chip_is_on
  M_Chip___eq__ : Meth K o_Chip "__eq__" a_Chip___eq__
  M_Chip_check_page : Meth K o_Chip "check_page" a_Chip_check_page
  M_Chip_read : Meth K o_Chip "read" a_Chip_read
  M_Chip_begin_deed : Meth K o_Chip "begin_deed" a_Chip_begin_deed
  M_Chip_end_deed : Meth K o_Chip "end_deed" a_Chip_end_deed
  M_Chip_write : Meth K o_Chip "write" a_Chip_write
  M_Chip_erase : Meth K o_Chip "erase" a_Chip_erase
  M_Chip_fault : Meth K o_Chip "fault" a_Chip_fault
  M_Chip_can_fade : Meth K o_Chip "can_fade" a_Chip_can_fade
  M_Chip_fade : Meth K o_Chip "fade" a_Chip_fade
  M_Chip_image : Meth K o_Chip "image" a_Chip_image
  m_len : mg "len" = none
  m_all : mg "all" = none
  m_isinstance : mg "isinstance" = none
  m_sum : mg "sum" = none
  m_abs : mg "abs" = none
  m_max : mg "max" = none
  m_min : mg "min" = none
  m_repr : mg "repr" = none
  m_sorted : mg "sorted" = none
  m_int : mg "int" = none
  m_set : mg "set" = none
  m_bool : mg "bool" = none
  m_str : mg "str" = none
  m_tuple : mg "tuple" = none
  m_list : mg "list" = none
  m_dict : mg "dict" = none
  m_range : mg "range" = none
  m_zip : mg "zip" = none
  m_enumerate : mg "enumerate" = none
  c_CELLS : ∃ t, mg "CELLS" = some (.str ⟨([48, 49, 50, 51, 52, 53, 54, 55, 56, 57, 97, 98, 99, 100, 101, 102] : List Nat).toArray⟩ t)
  c_CELLS_A_PAGE : ∃ t, mg "CELLS_A_PAGE" = some (.int 256 t)
  c_LEAST_BLOCKS : ∃ t, mg "LEAST_BLOCKS" = some (.int 4 t)
  c_MOST_BLOCKS : ∃ t, mg "MOST_BLOCKS" = some (.int 64 t)
  c_LEAST_PAGES : ∃ t, mg "LEAST_PAGES" = some (.int 4 t)
  c_MOST_PAGES : ∃ t, mg "MOST_PAGES" = some (.int 16 t)
  c_EMPTY : ∃ t, mg "EMPTY" = some (.str ⟨((List.replicate 256 102) : List Nat).toArray⟩ t)
  c_CUT : ∃ t, mg "CUT" = some (.str ⟨([99, 117, 116] : List Nat).toArray⟩ t)
  c_BAD : ∃ t, mg "BAD" = some (.str ⟨([98, 97, 100] : List Nat).toArray⟩ t)
  c_TRIPLE : ∃ t, mg "TRIPLE" = some (.int 3 t)
end K15
end W9
namespace W9
open PySem PySem.Spec PyProof.Rows L2
/-! ### looks at any data -/
def intB (lo hi : Int) : PyData → Bool
  | .int i => decide (lo ≤ i) && decide (i ≤ hi)
  | _ => false
def cellsB (lo hi : Int) : PyData → Bool
  | .str x => (decide (lo ≤ (x.cps.size : Int)) && decide ((x.cps.size : Int) ≤ hi)) && x.cps.toList.all (fun c => decide (c ∈ hexS))
  | _ => false
abbrev cutL : List Nat := [99, 117, 116]
abbrev badL : List Nat := [98, 97, 100]
def wordB : PyData → Bool
  | .str x => decide (x.cps.toList ∈ [cutL, badL])
  | _ => false
def oneB : PyData → Bool
  | .int i => decide (1 ≤ i)
  | _ => false
def faultB : PyData → Bool
  | .tuple [a, b, c] => oneB a && (wordB b && cellsB 1 256 c)
  | _ => false
def ftI : PyData → Int
  | .tuple (.int i :: _) => i
  | _ => 0
def faultsB : PyData → Bool
  | .tuple l => l.all faultB && ascI (l.map ftI)
  | _ => false
mutual
/-- small data without dicts -/
def gdB : PyData → Bool
  | .none => true
  | .bool _ => true
  | .int _ => true
  | .str x => decide (x.cps.size ≤ 1000) && x.cps.toList.all (fun c => decide (c < 1114112))
  | .list l => decide (l.length < 60) && gdAll l
  | .tuple l => decide (l.length < 60) && gdAll l
  | .dict _ => false
def gdAll : List PyData → Bool
  | [] => true
  | d :: l => gdB d && gdAll l
end
theorem gdAll_mem : ∀ {l : List PyData}, gdAll l = true → ∀ d ∈ l, gdB d = true
  | [], _, d, hd => nomatch hd
  | x :: l, h, d, hd => by
    unfold gdAll at h
    rw [Bool.and_eq_true] at h
    rcases List.mem_cons.mp hd with rfl | hd
    · exact h.1
    · exact gdAll_mem h.2 d hd
theorem gd_str {x : Str} (h : gdB (.str x) = true) : x.cps.size ≤ 1000 ∧ ∀ c ∈ x.cps.toList, c < 1114112 := by
  unfold gdB at h
  rw [Bool.and_eq_true, decide_eq_true_eq, List.all_eq_true] at h
  exact ⟨h.1, fun c hc => of_decide_eq_true (h.2 c hc)⟩
theorem gd_tup {l : List PyData} (h : gdB (.tuple l) = true) : l.length < 60 ∧ ∀ d ∈ l, gdB d = true := by
  unfold gdB at h
  rw [Bool.and_eq_true, decide_eq_true_eq] at h
  exact ⟨h.1, gdAll_mem h.2⟩
theorem str_eta (x : Str) : x = ⟨x.cps.toList.toArray⟩ := by cases x; simp
theorem cellsB_S {lo hi : Int} {l : List Nat} : cellsB lo hi (.str ⟨l.toArray⟩) = ((decide (lo ≤ (l.length : Int)) && decide ((l.length : Int) ≤ hi)) && l.all (fun c => decide (c ∈ hexS))) := by
  unfold cellsB
  simp
theorem wordB_S {l : List Nat} : wordB (.str ⟨l.toArray⟩) = decide (l ∈ [cutL, badL]) := by unfold wordB; simp
/-! ### small data are shown -/
def lfB : PyData → Bool
  | .none => true
  | .bool _ => true
  | .int i => decide (i.natAbs < 10 ^ 11)
  | .str x => decide (x.cps.size ≤ 1000) && x.cps.toList.all (fun c => decide (c < 1114112))
  | _ => false
theorem lf_short {i : Int} (h : i.natAbs < 10 ^ 11) : ((PyData.int i).shown).length ≤ 13 ∧ i.natAbs.log2 < 1920 := by
  exact ⟨PyData.shown_int_le (by omega), log_small (by omega)⟩
theorem lf_leaf {d : PyData} (h : lfB d = true) : d.depth ≤ 1 ∧ d.showable = true ∧ d.hasDict = false ∧ d.leavesShort 13 = true ∧ d.bulk ≤ 1000 ∧ d.canLay0 = true := by
  cases d with
  | none => exact ⟨by decide, rfl, rfl, rfl, by decide, rfl⟩
  | bool b => exact ⟨by simp [PyData.depth], rfl, rfl, rfl, by simp [PyData.bulk], rfl⟩
  | int i =>
    have h := lf_short (of_decide_eq_true h)
    exact ⟨by simp [PyData.depth], by simp [PyData.showable, h.2], rfl, by simp only [PyData.leavesShort]; exact decide_eq_true h.1, by simp [PyData.bulk], rfl⟩
  | str x =>
    unfold lfB at h
    rw [Bool.and_eq_true, decide_eq_true_eq, List.all_eq_true] at h
    refine ⟨by simp [PyData.depth], rfl, rfl, ?_, by simp only [PyData.bulk]; exact h.1, ?_⟩
    · simp only [PyData.leavesShort]
      rw [List.all_eq_true]
      intro c hc
      have := of_decide_eq_true (h.2 c hc)
      exact decide_eq_true (by omega)
    · simp only [PyData.canLay0]
      have e := str_eta x
      have z := sh_str (w := x.cps.toList) fun c hc => of_decide_eq_true (h.2 c hc)
      rw [← e] at z
      have z := SeqAt.canLay_of_shaped z
      simpa only [PyData.canLay0] using z
  | list l => cases h
  | tuple l => cases h
  | dict l => cases h
theorem lf_all {l : List PyData} (h : l.all lfB = true) : PyData.depthAll l ≤ 1 ∧ PyData.showableAll l = true ∧ PyData.hasDictAll l = false ∧ PyData.leavesShortAll 13 l = true ∧ PyData.bulkAll l ≤ l.length * 1001 ∧ PyData.canLayAll0 l = true := by
  induction l with
  | nil => exact ⟨by simp [PyData.depthAll], rfl, rfl, rfl, by simp [PyData.bulkAll], rfl⟩
  | cons d l ih =>
    rw [List.all_cons, Bool.and_eq_true] at h
    obtain ⟨a1, a2, a3, a4, a5, a6⟩ := lf_leaf h.1
    obtain ⟨b1, b2, b3, b4, b5, b6⟩ := ih h.2
    refine ⟨by simp only [PyData.depthAll]; omega, by simp [PyData.showableAll, a2, b2], by simp [PyData.hasDictAll, a3, b3], by simp [PyData.leavesShortAll, a4, b4], ?_, by simp [PyData.canLayAll0, a6, b6]⟩
    simp only [PyData.bulkAll, List.length_cons]
    omega
theorem rep_lf {d : PyData} (h : lfB d = true) : Rep d := by
  obtain ⟨a1, a2, a3, a4, a5, a6⟩ := lf_leaf h
  exact ⟨by omega, a2, a3, a4, by omega⟩
theorem rep_tp {l : List PyData} (h : l.all lfB = true) (hl : l.length ≤ 1000) : Rep (.tuple l) := by
  obtain ⟨b1, b2, b3, b4, b5, b6⟩ := lf_all h
  exact ⟨by simp only [PyData.depth]; omega, by simpa only [PyData.showable] using b2, by simpa only [PyData.hasDict] using b3, by simpa only [PyData.leavesShort] using b4, by simp only [PyData.bulk]; omega⟩
theorem rep_ls {l : List PyData} (h : l.all lfB = true) (hl : l.length ≤ 1000) : Rep (.list l) := by
  obtain ⟨b1, b2, b3, b4, b5, b6⟩ := lf_all h
  exact ⟨by simp only [PyData.depth]; omega, by simpa only [PyData.showable] using b2, by simpa only [PyData.hasDict] using b3, by simpa only [PyData.leavesShort] using b4, by simp only [PyData.bulk]; omega⟩
end W9
namespace W9
open PySem PySem.Spec PyProof.Rows L2
theorem zip_asc {α : Type} (f : α → Int) : ∀ l : List α, ((l.zip (l.drop 1)).all fun q => decide (f q.1 < f q.2)) = ascI (l.map f)
  | [] => rfl
  | [a] => rfl
  | a :: b :: l => by
    have ih := zip_asc f (b :: l)
    show ((a, b) :: ((b :: l).zip l)).all _ = _
    rw [List.all_cons]
    show (decide (f a < f b) && (((b :: l).zip ((b :: l).drop 1)).all fun q => decide (f q.1 < f q.2))) = _
    rw [ih]
    rfl
theorem eqv_ints : ∀ {a b : List Int}, PyData.eqvAll (a.map .int) (b.map .int) = decide (a = b)
  | [], [] => rfl
  | [], b :: l => rfl
  | a :: l, [] => rfl
  | a :: l, b :: k => by
    rw [List.map_cons, List.map_cons]
    simp only [PyData.eqvAll, PyData.eqv]
    rw [eqv_ints (a := l) (b := k)]
    by_cases h1 : a = b <;> by_cases h2 : l = k <;> simp [h1, h2]
theorem faultB_three {d : PyData} (h : faultB d = true) : ∃ (i : Int) (w c : Str), d = .tuple [.int i, .str w, .str c] ∧ 1 ≤ i ∧ w.cps.toList ∈ [cutL, badL] ∧ cellsB 1 256 (.str c) = true := by
  cases d with
  | tuple l =>
    match l, h with
    | [a, b, c], h =>
      unfold faultB at h
      rw [Bool.and_eq_true, Bool.and_eq_true] at h
      obtain ⟨h1, h2, h3⟩ := h
      cases a with
      | int i =>
        cases b with
        | str w =>
          cases c with
          | str c => exact ⟨i, w, c, rfl, of_decide_eq_true h1, of_decide_eq_true h2, h3⟩
          | _ => cases h3
        | _ => cases h2
      | _ => cases h1
    | [], h => cases h
    | [_], h => cases h
    | [_, _], h => cases h
    | _ :: _ :: _ :: _ :: _, h => cases h
  | _ => cases h
theorem plain_w : Plain [cutL, badL] := fun w hw c hc => by
  have : ∀ w ∈ [cutL, badL], ∀ c ∈ w, c < 1114112 := by decide
  exact this w hw c hc
end W9
namespace W9
open PySem PySem.Spec PyProof.Rows L2
section
variable {X : Cx} {m : MS} {ds : DE} {e a b : Expr} {es : List Expr} {pos p : Pos}
theorem cut_full {α : Type} {xs : List α} {lo hi : Option Int} (h : HT.sIx xs.length 0 lo = 0 ∧ HT.sIx xs.length xs.length hi = xs.length) : cut xs lo hi = xs := by
  unfold cut
  rw [h.1, h.2, List.drop_zero, Nat.sub_zero, List.take_length]
theorem sl_T {l : List PyData} {lo hi : Option Int} : SlD X m (Tp l) lo hi (Tp (cut l lo hi)) := ⟨_, sl_tupA, fun G H v w r1 Q q => by
  obtain ⟨a, xs, rfl, h1, h2⟩ := ds_tup r1
  have hl := dpa_length h2
  refine ⟨a, xs, rfl, ex_t w.w h1, fun z => ?_, fun z p hp => ?_⟩
  · rw [hl] at z
    rw [cut_full z] at q
    exact q _ _ _ (.refl w) r1
  · have g := Gr.new (o := .tup (cutV xs lo hi)) w hp
    refine q _ _ _ g (.py (.tup upd_same (dpa_mono g.g ?_)))
    unfold cutV cut
    rw [hl]
    exact dpa_take _ (dpa_drop _ h2)⟩
/-- e1 and (..) that is false at once -/
theorem ee_andF {b : Expr} {rest : List Expr} (h : EE X a ds (B false)) : EE X (.BoolOp .And (a :: b :: rest) pos) ds (B false) := EE.is (ee_and (l := false) h fun z => nomatch z) rfl
theorem ew_orT {b : Expr} {rest : List Expr} (h : ET X a ds true) : EW X (.BoolOp .Or (a :: b :: rest) pos) ds true := ew_or (l := true) h fun z => nomatch z
theorem ew_andF {b : Expr} {rest : List Expr} (h : ET X a ds false) : EW X (.BoolOp .And (a :: b :: rest) pos) ds false := ew_and (l := false) h fun z => nomatch z
theorem md_joinM {α : Type} {l : List α} {f : α → Nat} (hz : l.length ≤ 1000000) : MtD X "str" "str.join" m (S []) [Ls (l.map fun a => PyData.str ⟨[f a].toArray⟩)] (S (l.map f)) := by
  have z : MtD X "str" "str.join" m (S []) [Ls ((l.map f).map fun c => PyData.str ⟨[c].toArray⟩)] (S (l.map f)) := md_joinS (by rw [List.length_map]; exact hz)
  rw [List.map_map] at z
  exact z
end
theorem not_t {b : Bool} (h : (!b) = true) : b = false := by cases b <;> first | rfl | cases h
theorem not_f {b : Bool} (h : (!b) = false) : b = true := by cases b <;> first | rfl | cases h
/-- max of two signs, by places -/
def mx (a b : Nat) : Nat := if a < b then b else a
theorem mx_one (a b : Nat) : S (if ([a] : List Nat) < [b] then [b] else [a]) = S [mx a b] := by
  unfold mx
  have e : (([a] : List Nat) < [b]) ↔ a < b := by rw [List.cons_lt_cons_iff]; exact ⟨fun h => h.elim id fun h => absurd h.2 (List.not_lt_nil _), .inl⟩
  by_cases h : a < b
  · rw [if_pos (e.mpr h), if_pos h]
  · rw [if_neg (fun z => h (e.mp z)), if_neg h]
def tornL (cs ps : List Nat) : List Nat := cs.zipIdx.map fun q => mx q.1 (ps.getD (q.2 % ps.length) 0)
theorem tornL_len {cs ps : List Nat} : (tornL cs ps).length = cs.length := by unfold tornL; rw [List.length_map, List.length_zipIdx]
def HexL (l : List Nat) : Prop := ∀ c ∈ l, c ∈ hexS
theorem hex_128 {c : Nat} (h : c ∈ hexS) : c < 128 := by
  have : ∀ c ∈ hexS, c < 128 := by decide
  exact this c h
theorem HexL.asc {l : List Nat} (h : HexL l) : l.all (· < 128) = true := List.all_eq_true.mpr fun c hc => decide_eq_true (hex_128 (h c hc))
theorem HexL.torn {cs ps : List Nat} (h : HexL cs) (h2 : HexL ps) (h0 : ps ≠ []) : HexL (tornL cs ps) := fun c hc => by
  unfold tornL at hc
  obtain ⟨⟨x, i⟩, hq, rfl⟩ := List.mem_map.mp hc
  have hx := h x (List.fst_mem_of_mem_zipIdx hq)
  have hl : 0 < ps.length := List.length_pos_iff.mpr h0
  have hp : ps.getD (i % ps.length) 0 ∈ hexS := by
    rw [List.getD_eq_getElem?_getD, List.getElem?_eq_getElem (Nat.mod_lt _ hl)]
    exact h2 _ (List.getElem_mem _)
  show mx x (ps.getD (i % ps.length) 0) ∈ hexS
  unfold mx
  split
  · exact hp
  · exact hx
end W9
namespace W9
open PySem PySem.Spec PyProof.Rows L2 LamX
/-! ### rows of entries and what is owned, by places -/
section
variable {α : Type}
theorem getK_at : ∀ {l : List (Key × α)} {i : Nat} {k : Key} {a : α}, (l.map (·.1)).Nodup → l[i]? = some (k, a) → getK l k = some a
  | [], _, _, _, _, e => by simp at e
  | (j, b) :: l, 0, k, a, _, e => by
    have e : (j, b) = (k, a) := by simpa using e
    cases e
    exact getK_pos
  | (j, b) :: l, i + 1, k, a, nd, e => by
    rw [List.map_cons, List.nodup_cons] at nd
    have e : l[i]? = some (k, a) := by simpa using e
    have ne : j ≠ k := fun z => nd.1 (List.mem_map.mpr ⟨_, List.mem_of_getElem? e, z.symm⟩)
    rw [getK_neg ne]
    exact getK_at nd.2 e
theorem set_map {l : List (Key × α)} {k : Key} {b : α} (h : k ∉ l.map (·.1)) : l.map (fun q => if q.1 = k then (q.1, b) else q) = l := by
  refine (List.map_congr_left fun q hq => ?_).trans (List.map_id _)
  rw [if_neg fun z => h (List.mem_map.mpr ⟨q, hq, z⟩)]
  rfl
theorem setK_map : ∀ {l : List (Key × α)} {i : Nat} {k : Key} {a b : α}, (l.map (·.1)).Nodup → l[i]? = some (k, a) → l.map (fun q => if q.1 = k then (q.1, b) else q) = l.set i (k, b)
  | [], _, _, _, _, _, e => by simp at e
  | (j, c) :: l, 0, k, a, b, nd, e => by
    have e : (j, c) = (k, a) := by simpa using e
    cases e
    rw [List.map_cons, List.nodup_cons] at nd
    rw [List.map_cons, if_pos rfl, set_map nd.1]
    rfl
  | (j, c) :: l, i + 1, k, a, b, nd, e => by
    rw [List.map_cons, List.nodup_cons] at nd
    have e : l[i]? = some (k, a) := by simpa using e
    have ne : j ≠ k := fun z => nd.1 (List.mem_map.mpr ⟨_, List.mem_of_getElem? e, z.symm⟩)
    rw [List.map_cons, if_neg ne, setK_map nd.2 e]
    rfl
theorem setK_at {l : List (Key × α)} {i : Nat} {k : Key} {a b : α} (nd : (l.map (·.1)).Nodup) (e : l[i]? = some (k, a)) : setK l k b = l.set i (k, b) := by
  unfold setK
  rw [if_pos (List.any_eq_true.mpr ⟨_, List.mem_of_getElem? e, decide_eq_true rfl⟩)]
  exact setK_map nd e
theorem setK_new {l : List (Key × α)} {k : Key} {b : α} (h : k ∉ l.map (·.1)) : setK l k b = l ++ [(k, b)] := by
  unfold setK
  rw [if_neg]
  intro z
  obtain ⟨q, hq, e⟩ := List.any_eq_true.mp z
  exact h (List.mem_map.mpr ⟨q, hq, of_decide_eq_true e⟩)
theorem mrgK_app : ∀ {r l : List (Key × α)}, ((l ++ r).map (·.1)).Nodup → mrgK l r = l ++ r
  | [], l, _ => by rw [List.append_nil]; rfl
  | (k, a) :: r, l, nd => by
    have h : k ∉ l.map (·.1) := fun z => by
      rw [List.map_append, List.nodup_append] at nd
      exact nd.2.2 k z k (List.mem_cons_self ..) rfl
    show mrgK (setK l k a) r = _
    rw [setK_new h, mrgK_app (by rw [List.append_assoc]; exact nd), List.append_assoc]
    rfl
theorem mrgK_nil {r : List (Key × α)} (nd : (r.map (·.1)).Nodup) : mrgK [] r = r := mrgK_app (l := []) nd
end
theorem pyK_keys (l : List (Key × PyData)) : (pyK l).map (·.1) = l.map (·.1) := by unfold pyK; rw [List.map_map]; rfl
theorem setK_pyK {l : List (Key × PyData)} {k : Key} {d : PyData} : setK (pyK l) k (.py d) = pyK (setK l k d) := by
  have e : ((pyK l).any fun q => decide (q.1 = k)) = (l.any fun q => decide (q.1 = k)) := by unfold pyK; rw [List.any_map]; rfl
  unfold setK
  rw [e]
  split
  · unfold pyK
    rw [List.map_map, List.map_map]
    refine List.map_congr_left fun q _ => ?_
    show (if q.1 = k then (q.1, SD.py d) else (q.1, SD.py q.2)) = _
    by_cases h : q.1 = k
    · rw [if_pos h]; show _ = ((if q.1 = k then (q.1, d) else q).1, SD.py (if q.1 = k then (q.1, d) else q).2); rw [if_pos h]
    · rw [if_neg h]; show _ = ((if q.1 = k then (q.1, d) else q).1, SD.py (if q.1 = k then (q.1, d) else q).2); rw [if_neg h]
  · unfold pyK
    rw [List.map_append]
    rfl
theorem delK_pyK {l : List (Key × PyData)} {k : Key} : delK (pyK l) k = pyK (delK l k) := by
  unfold delK pyK
  rw [List.filter_map]
  rfl
theorem mset_at : ∀ {m : MS} {i : Nat} {p : Addr} {v u : OV}, (ad m).Nodup → m[i]? = some (p, v) → mset m p u = m.set i (p, u)
  | [], _, _, _, _, _, e => by simp at e
  | (q, w) :: m, 0, p, v, u, nd, e => by
    have e : (q, w) = (p, v) := by simpa using e
    cases e
    have nd : q ∉ ad m ∧ (ad m).Nodup := by unfold ad at nd ⊢; rw [List.map_cons, List.nodup_cons] at nd; exact nd
    rw [mset_hd nd.1]
    rfl
  | (q, w) :: m, i + 1, p, v, u, nd, e => by
    have nd : q ∉ ad m ∧ (ad m).Nodup := by unfold ad at nd ⊢; rw [List.map_cons, List.nodup_cons] at nd; exact nd
    have e : m[i]? = some (p, v) := by simpa using e
    have ne : q ≠ p := fun z => nd.1 (by rw [z]; exact mem_ad (List.mem_of_getElem? e))
    show (if q = p then (p, u) else (q, w)) :: mset m p u = _
    rw [if_neg ne, mset_at nd.2 e]
    rfl
section
variable {X : Cx} {ds : DE} {m : MS} {e o : Expr} {pos : Pos} {f : Str} {a C dx p : Addr} {l : List (Option SD)} {i : Nat}
/-- o.f as a target, the instance anywhere among what is owned -/
theorem wg_slM {d : SD} {P : DE → MS → Prop} (ho : EE X o ds (.raw (.ref a))) (hm : (a, OV.ins a C dx l) ∈ m) (hx : (dx, OV.ho (.xd [])) ∈ m) (c : SlX.SCls X.K C) (t : SlX.Slot1 X.K C f p i) (h : P ds (mset m a (.ins a C dx (putD i d l)))) :
    WG X (.Attribute o f pos) [] d ds m P := fun σ G H y E w ry Q q => oG (pg_sl (pE o)) (ho _ σ G H E w _ fun v d' m1 G1 H1 g1 r1 ⟨e1, e2⟩ => by
  subst e1 e2
  cases ds_raw r1
  obtain ⟨vs, h1, h2⟩ := own_ins g1.wd hm
  have h3 := own_ho g1.wd hx
  refine ⟨a, C, dx, p, vs, i, rfl, .inr ⟨h1, h3⟩, c, t, ?_⟩
  have g2 := Gr.set (o := SlX.SlO a C dx (SlX.putS i y vs)) (v := .ins a C dx (putD i d l)) g1.wd hm ⟨_, rfl, dso_put (ds_mono g1.g ry) i h2⟩
  unfold SlX.slH
  rw [upd_self h3]
  exact q _ _ _ _ _ (g1.trans g2) (E.mono (g1.trans g2).g) ⟨fun _ _ => rfl, rfl⟩ h)
theorem xss_perm {sts : List Stmt} {m' : MS} {E : ED} {R : RX} (hp : m.Perm m') (h : XSs X sts ds m' E R) : XSs X sts ds m E R := fun W tk σ G H e0 w x D k => h W tk σ G H e0 (w.perm hp) (x.after (Gr.perm w hp)) D (k.after (Gr.perm w hp))
theorem wi_range2 {tg a b : Expr} {p : Pos} {P : List SD → MS → Prop} (h : WE X a ds m fun d m1 => ∃ lo : Int, d = I lo ∧ WE X b ds m1 fun d2 m2 => ∃ n : Int, d2 = I n ∧ (-(2 ^ 62) ≤ lo ∧ lo < 2 ^ 62 ∧ -(2 ^ 62) ≤ n ∧ n < 2 ^ 62) ∧ P ((List.range (n - lo).toNat).map fun (i : Nat) => I (lo + (i : Int))) m2) (hm : X.mg "range" = none) (hg : Gl X "range" := by rfl)
    (hs : starEach [a, b] X.env = [(false, eval a X.env), (false, eval b X.env)] := by rfl) (hs2 : starEach [b] X.env = [(false, eval b X.env)] := by rfl) :
    WI X tg (.Call (.Name "range" p) [a, b] [] pos) ds m P := fun σ G H E w R' q => oI (pi_range2 hg hm (pa_cons (pE a) (pa_cons (pE b) pa_nil (by rw [hs2]; rfl)) (by rw [hs, hs2])) hs hs2) (h σ G H E w _ fun v d m1 G1 H1 g1 r1 ⟨lo, e1, h2⟩ => by
  subst e1
  cases ds_int r1
  refine h2 σ G1 H1 (E.mono g1.g) g1.wd _ fun v d m2 G2 H2 g2 r2 ⟨n, e1, hn, hP⟩ => ?_
  subst e1
  cases ds_int r2
  refine ⟨lo, n, rfl, hn, q _ _ _ _ _ (g1.trans g2) ⟨fun i H e hi => ?_, fun H e => ?_, fun i m' G' H x H' e w' hi y => ?_⟩ hP⟩
  · show i < (n - lo).toNat
    rw [List.length_map, List.length_range] at hi; exact hi
  · show (n - lo).toNat ≤ ((List.range (n - lo).toNat).map fun (i : Nat) => I (lo + (i : Int))).length
    rw [List.length_map, List.length_range]; exact Nat.le_refl _
  · obtain ⟨e1, e2⟩ := y
    subst e1 e2
    exact ⟨G', I (lo + (i : Int)), .refl w', by rw [map_range_get (by simpa using hi)], .py (.int _)⟩)
end
/-! ### chips -/
abbrev emptyL : List Nat := List.replicate 256 102
abbrev Flt : Type := Int × List Nat × List Nat
/-- how a chip stands -/
structure Chp where
  bl : Int
  pg : Int
  cells : List (List Nat)
  wear : List Int
  bad : List Int
  wr : List Int
  fs : List Flt
  done : Int
  cuts : Int
  on : Bool
/-- where its parts lie -/
structure CA where
  a : Addr
  dx : Addr
  pc : Addr
  pw : Addr
  pb : Addr
  pr : Addr
  pf : Addr
def fvP (q : Flt) : Key × PyData := (.inl q.1, .tuple [tx q.2.1, tx q.2.2])
def trK (l : List Int) : List (Key × PyData) := l.map fun i => (.inl i, .bool true)
def Chp.sl (A : CA) (c : Chp) : List (Option SD) := [some (.raw (.ref A.pb)), some (I c.bl), some (.raw (.ref A.pc)), some (I c.cuts), some (I c.done), some (.raw (.ref A.pf)), some (B c.on), some (I c.pg), some (.raw (.ref A.pw)), some (.raw (.ref A.pr))]
def Chp.rest (A : CA) (c : Chp) : MS := [(A.pc, .dl (txts c.cells)), (A.pw, .dl (c.wear.map .int)), (A.pb, .ds (pyK (trK c.bad))), (A.pr, .ds (pyK (trK c.wr))), (A.pf, .ds (pyK (c.fs.map fvP)))]
def chM (C : Addr) (A : CA) (c : Chp) : MS := InsM A.a C A.dx (c.sl A) (c.rest A)
theorem plM_rest {A : CA} {c : Chp} : plM (c.rest A) := by
  unfold Chp.rest plM
  exact ⟨trivial, trivial, plO_py, plO_py, plO_py, trivial⟩
/-- a key more -/
def putI (l : List Int) (k : Int) : List Int := if k ∈ l then l else l ++ [k]
def delI (l : List Int) (k : Int) : List Int := l.filter (· ≠ k)
theorem trK_keys (l : List Int) : (trK l).map (·.1) = l.map Sum.inl := by unfold trK; rw [List.map_map]; rfl
theorem fv_keys (l : List Flt) : (l.map fvP).map (·.1) = (l.map (·.1)).map Sum.inl := by rw [List.map_map, List.map_map]; rfl
theorem inl_nd {l : List Int} (h : l.Nodup) : (l.map (Sum.inl : Int → Key)).Nodup := List.pairwise_map.mpr (h.imp fun ne e => ne (Sum.inl.inj e))
theorem trK_has {l : List Int} {k : Int} : (getK (trK l) (.inl k)).isSome = decide (k ∈ l) := by
  induction l with
  | nil => rfl
  | cons x l ih =>
    unfold trK at ih ⊢
    rw [List.map_cons]
    by_cases h : x = k
    · subst h; rw [getK_pos]; simp
    · rw [getK_neg (fun z => h (Sum.inl.inj z)), ih]
      have : (k = x) = False := by simp [Ne.symm h]
      simp [this]
theorem trK_put {l : List Int} {k : Int} : setK (trK l) (.inl k) (.bool true) = trK (putI l k) := by
  unfold putI
  by_cases h : k ∈ l
  · rw [if_pos h]
    have e : ((trK l).any fun q => decide (q.1 = (.inl k : Key))) = true := List.any_eq_true.mpr ⟨(.inl k, .bool true), List.mem_map.mpr ⟨k, h, rfl⟩, decide_eq_true rfl⟩
    unfold setK
    rw [if_pos e]
    refine (List.map_congr_left fun q hq => ?_).trans (List.map_id _)
    obtain ⟨j, hj, rfl⟩ := List.mem_map.mp hq
    show (if (Sum.inl j : Key) = .inl k then ((Sum.inl j : Key), PyData.bool true) else (.inl j, .bool true)) = (.inl j, .bool true)
    split <;> rfl
  · rw [if_neg h, setK_new (fun z => by
      rw [trK_keys] at z
      obtain ⟨j, hj, e⟩ := List.mem_map.mp z
      exact h (Sum.inl.inj e ▸ hj))]
    unfold trK
    rw [List.map_append]
    rfl
theorem trK_del {l : List Int} {k : Int} : delK (trK l) (.inl k) = trK (delI l k) := by
  unfold delK trK delI
  rw [List.filter_map]
  congr 1
  refine List.filter_congr fun x _ => ?_
  show decide ((Sum.inl x : Key) ≠ .inl k) = decide (x ≠ k)
  exact decide_eq_decide.mpr ⟨fun h z => h (congrArg _ z), fun h z => h (Sum.inl.inj z)⟩
theorem fv_get {l : List Flt} {k : Int} : getK (l.map fvP) (.inl k) = (l.find? fun q => decide (q.1 = k)).map fun q => PyData.tuple [tx q.2.1, tx q.2.2] := by
  induction l with
  | nil => rfl
  | cons x l ih =>
    rw [List.map_cons]
    by_cases h : x.1 = k
    · subst h
      rw [List.find?_cons_of_pos (p := fun q : Flt => decide (q.1 = x.1)) (decide_eq_true rfl)]
      exact getK_pos
    · rw [List.find?_cons_of_neg (p := fun q : Flt => decide (q.1 = k)) (by simpa using h), ← ih]
      exact getK_neg fun z => h (Sum.inl.inj z)
theorem fv_put {l : List Flt} {q : Flt} (h : q.1 ∉ l.map (·.1)) : setK (l.map fvP) (.inl q.1) (.tuple [tx q.2.1, tx q.2.2]) = (l ++ [q]).map fvP := by
  rw [setK_new (fun z => by
    rw [fv_keys] at z
    obtain ⟨j, hj, e⟩ := List.mem_map.mp z
    exact h (Sum.inl.inj e ▸ hj)), List.map_append]
  rfl
end W9
namespace W9
open PySem PySem.Spec PyProof.Rows L2
/-! ### what a chip does -/
inductive Er where
  | size | faults | place | cells | full | cut | block | fade | fault | pending
  deriving DecidableEq
def toI : PyData → Int
  | .int i => i
  | _ => 0
def strL : PyData → List Nat
  | .str x => x.cps.toList
  | _ => []
structure WfC (c : Chp) : Prop where
  b : 4 ≤ c.bl ∧ c.bl ≤ 64 ∧ 4 ≤ c.pg ∧ c.pg ≤ 16
  cl : (c.cells.length : Int) = c.bl * c.pg
  ce : ∀ t ∈ c.cells, HexL t ∧ t.length = 256
  wl : (c.wear.length : Int) = c.bl
  bd : c.bad.length ≤ 1000
  wr : c.wr.length ≤ 100000
  fl : c.fs.length ≤ 60
  fk : ∀ q ∈ c.fs, (q.2.1 = cutL ∨ q.2.1 = badL) ∧ HexL q.2.2 ∧ q.2.2 ≠ [] ∧ q.2.2.length ≤ 256
  fn : (c.fs.map (·.1)).Nodup
abbrev Wo : Type := Option (List Nat × List Nat)
def Chp.word (c : Chp) : Wo := (c.fs.find? fun q => decide (q.1 = c.done + 1)).map (·.2)
abbrev Out : Type := (Er × PyData) ⊕ PyData
def Chp.endD (c : Chp) (b : Int) (w : Wo) : Out × Chp :=
  match w with
  | none => (.inr (.bool (!decide (b ∈ c.bad))), c)
  | some (w, _) => if w = cutL then (.inl (.cut, .none), { c with on := false, cuts := c.cuts + 1 })
    else if w = badL then (.inr (.bool (!decide (b ∈ putI c.bad b))), { c with bad := putI c.bad b })
    else (.inr (.bool (!decide (b ∈ c.bad))), c)
/-- what a deed lays over t -/
def overW (w : Wo) (t u : List Nat) : List Nat := match w with
  | none => u
  | some (_, p) => tornL t p
/-- a deed is counted -/
def Chp.begun (c : Chp) : Chp := { c with done := c.done + 1 }
def Chp.wrote (c : Chp) (w : Wo) (i : Int) (t : List Nat) : Chp :=
  if i / c.pg ∈ c.bad then c else { c with cells := c.cells.set i.toNat (overW w t t), wr := if w.isNone && !decide (t = emptyL) then putI c.wr i else c.wr }
def Chp.write (c : Chp) (place cells : PyData) : Out × Chp :=
  if intB 0 (c.bl * c.pg - 1) place = false then (.inl (.place, place), c)
  else if cellsB 256 256 cells = false then (.inl (.cells, cells), c)
  else if c.cells.getD (toI place).toNat [] ≠ emptyL then (.inl (.full, place), c)
  else if c.on = false then (.inl (.cut, .none), c)
  else (c.begun.wrote c.word (toI place) (strL cells)).endD (toI place / c.pg) c.word
/-- one page of a block is erased -/
def eraseAt (w : Wo) (s : List (List Nat) × List Int) (i : Int) : List (List Nat) × List Int :=
  (s.1.set i.toNat (overW w (s.1.getD i.toNat []) emptyL), delI s.2 i)
def eraseN (w : Wo) (lo : Int) (s : List (List Nat) × List Int) (n : Nat) : List (List Nat) × List Int := (List.range n).foldl (fun s (k : Nat) => eraseAt w s (lo + (k : Int))) s
def Chp.erased (c : Chp) (w : Wo) (b : Int) : Chp :=
  if b ∈ c.bad then c else { c with wear := c.wear.set b.toNat (c.wear.getD b.toNat 0 + 1), cells := (eraseN w (b * c.pg) (c.cells, c.wr) c.pg.toNat).1, wr := (eraseN w (b * c.pg) (c.cells, c.wr) c.pg.toNat).2 }
def Chp.erase (c : Chp) (block : PyData) : Out × Chp :=
  if intB 0 (c.bl - 1) block = false then (.inl (.block, block), c)
  else if c.on = false then (.inl (.cut, .none), c)
  else (c.begun.erased c.word (toI block)).endD (toI block) c.word
def Chp.read (c : Chp) (place : PyData) : Out × Chp :=
  if intB 0 (c.bl * c.pg - 1) place = false then (.inl (.place, place), c) else (.inr (tx (c.cells.getD (toI place).toNat [])), c)
def Chp.pend (c : Chp) : List Int := (srtI (c.fs.map (·.1))).filter fun i => decide (c.done < i)
def Chp.fault (c : Chp) (a w p : PyData) : Out × Chp :=
  if faultB (.tuple [a, w, p]) = false then (.inl (.fault, .tuple [a, w, p]), c)
  else match c.pend with
    | i :: _ => (.inl (.pending, .int i), c)
    | [] => (.inr .none, { c with fs := c.fs ++ [(c.done + toI a, strL w, strL p)] })
def Chp.canFade (c : Chp) (i : Int) (cell sign : PyData) : Bool :=
  intB 0 255 cell && cellsB 1 1 sign && (decide (i ∈ c.wr) && decide (strL sign < [(c.cells.getD i.toNat []).getD (toI cell).toNat 0]))
def fadeT (t : List Nat) (k : Int) (s : List Nat) : List Nat := cut t none (some k) ++ s ++ cut t (some (k + 1)) none
def Chp.fade (c : Chp) (place cell sign : PyData) : Out × Chp :=
  if intB 0 (c.bl * c.pg - 1) place = false then (.inl (.place, place), c)
  else if c.canFade (toI place) cell sign = false then (.inl (.fade, .tuple [cell, sign]), c)
  else (.inr .none, { c with cells := c.cells.set (toI place).toNat (fadeT (c.cells.getD (toI place).toNat []) (toI cell) (strL sign)), wr := delI c.wr (toI place) })
theorem intB_of {lo hi : Int} {d : PyData} (h : intB lo hi d = true) : ∃ i, d = .int i ∧ lo ≤ i ∧ i ≤ hi := by
  cases d with
  | int i =>
    unfold intB at h
    rw [Bool.and_eq_true, decide_eq_true_eq, decide_eq_true_eq] at h
    exact ⟨i, rfl, h.1, h.2⟩
  | _ => cases h
theorem cellsB_of {lo hi : Int} {d : PyData} (h : cellsB lo hi d = true) : ∃ l : List Nat, d = tx l ∧ lo ≤ (l.length : Int) ∧ (l.length : Int) ≤ hi ∧ HexL l := by
  cases d with
  | str x =>
    rw [str_eta x] at h ⊢
    rw [cellsB_S, Bool.and_eq_true, Bool.and_eq_true, decide_eq_true_eq, decide_eq_true_eq, List.all_eq_true] at h
    exact ⟨_, rfl, h.1.1, h.1.2, fun c hc => of_decide_eq_true (h.2 c hc)⟩
  | _ => cases h
/-- the fault that is told for the next deed, as data -/
def woP : Wo → List PyData
  | none => [.none, .none]
  | some (w, p) => [tx w, tx p]
theorem fv_word {c : Chp} : ((getK (pyK (c.fs.map fvP)) (.inl (c.done + 1))).getD (Tp [.none, .none])) = Tp (woP c.word) := by
  rw [getK_py, fv_get]
  unfold Chp.word woP
  cases c.fs.find? fun q => decide (q.1 = c.done + 1) with
  | none => rfl
  | some q => rfl
def WoOk (w : Wo) : Prop := match w with
  | none => True
  | some (w, p) => (w = cutL ∨ w = badL) ∧ HexL p ∧ p ≠ [] ∧ p.length ≤ 256
theorem WfC.wo {c : Chp} (h : WfC c) : WoOk c.word := by
  unfold Chp.word
  cases e : c.fs.find? fun q => decide (q.1 = c.done + 1) with
  | none => trivial
  | some q =>
    have := h.fk q (List.mem_of_find?_eq_some e)
    exact this
theorem empty_hex : HexL emptyL ∧ emptyL.length = 256 := ⟨fun c hc => by rw [(List.mem_replicate.mp hc).2]; decide, List.length_replicate⟩
theorem putI_len {l : List Int} {k : Int} : (putI l k).length ≤ l.length + 1 := by
  unfold putI
  split
  · omega
  · rw [List.length_append]; exact Nat.le_refl _
theorem delI_len {l : List Int} {k : Int} : (delI l k).length ≤ l.length := List.length_filter_le _ _
end W9
namespace W9
open PySem PySem.Spec PyProof.Rows L2
section
variable {C : Addr} {A : CA} {c : Chp}
theorem me_pc : (A.pc, OV.dl (txts c.cells)) ∈ c.rest A := by unfold Chp.rest; simp
theorem me_pw : (A.pw, OV.dl (c.wear.map .int)) ∈ c.rest A := by unfold Chp.rest; simp
theorem me_pb : (A.pb, OV.ds (pyK (trK c.bad))) ∈ c.rest A := by unfold Chp.rest; simp
theorem me_pr : (A.pr, OV.ds (pyK (trK c.wr))) ∈ c.rest A := by unfold Chp.rest; simp
theorem me_pf : (A.pf, OV.ds (pyK (c.fs.map fvP))) ∈ c.rest A := by unfold Chp.rest; simp
theorem mc_r {p : Addr × OV} (h : p ∈ c.rest A) : p ∈ chM C A c := List.mem_cons_of_mem _ (List.mem_cons_of_mem _ h)
theorem mc_i : (A.a, OV.ins A.a C A.dx (c.sl A)) ∈ chM C A c := List.mem_cons_self
theorem mc_x : (A.dx, OV.ho (.xd [])) ∈ chM C A c := List.mem_cons_of_mem _ List.mem_cons_self
theorem ms_pc (nd : (ad (chM C A c)).Nodup) (x : List (List Nat)) : mset (chM C A c) A.pc (.dl (txts x)) = chM C A { c with cells := x } := by
  rw [mset_at (i := 2) nd rfl]; rfl
theorem ms_pw (nd : (ad (chM C A c)).Nodup) (x : List Int) : mset (chM C A c) A.pw (.dl (x.map .int)) = chM C A { c with wear := x } := by
  rw [mset_at (i := 3) nd rfl]; rfl
theorem ms_pb (nd : (ad (chM C A c)).Nodup) (x : List Int) : mset (chM C A c) A.pb (.ds (pyK (trK x))) = chM C A { c with bad := x } := by
  rw [mset_at (i := 4) nd rfl]; rfl
theorem ms_pr (nd : (ad (chM C A c)).Nodup) (x : List Int) : mset (chM C A c) A.pr (.ds (pyK (trK x))) = chM C A { c with wr := x } := by
  rw [mset_at (i := 5) nd rfl]; rfl
theorem ms_pf (nd : (ad (chM C A c)).Nodup) (x : List Flt) : mset (chM C A c) A.pf (.ds (pyK (x.map fvP))) = chM C A { c with fs := x } := by
  rw [mset_at (i := 6) nd rfl]; rfl
theorem mr_pr (nd : (ad (c.rest A)).Nodup) (x : List Int) : mset (c.rest A) A.pr (.ds (pyK (trK x))) = Chp.rest A { c with wr := x } := by
  rw [mset_at (i := 3) nd rfl]; rfl
theorem nd_rest (nd : (ad (chM C A c)).Nodup) : (ad (c.rest A)).Nodup := by
  unfold chM InsM ad at nd
  rw [List.map_cons, List.nodup_cons, List.map_cons, List.nodup_cons] at nd
  exact nd.2.2
theorem pyK_len {l : List (Key × PyData)} : (pyK l).length = l.length := List.length_map ..
theorem trK_len {l : List Int} : (trK l).length = l.length := List.length_map ..
theorem set_txts {l : List (List Nat)} {i : Nat} {t : List Nat} : (txts l).set i (tx t) = txts (l.set i t) := by unfold txts; rw [List.map_set]
theorem set_ints {l : List Int} {i : Nat} {t : Int} : (l.map PyData.int).set i (.int t) = (l.set i t).map .int := by rw [List.map_set]
theorem txts_get {l : List (List Nat)} {i : Nat} (h : i < l.length) : (txts l)[i]? = some (tx (l.getD i [])) := by
  rw [List.getElem?_map, List.getElem?_eq_getElem h, List.getD_eq_getElem?_getD, List.getElem?_eq_getElem h]; rfl
theorem ints_get' {l : List Int} {i : Nat} (h : i < l.length) : (l.map PyData.int)[i]? = some (.int (l.getD i 0)) := by
  rw [List.getElem?_map, List.getElem?_eq_getElem h, List.getD_eq_getElem?_getD, List.getElem?_eq_getElem h]; rfl
end
end W9
namespace W9
theorem Rm.nx {X : L2.Cx} {k : Nat} (h : Rm k X.A) : Rm 0 X.nox.A := h.mono (Nat.zero_le _)
end W9
namespace W9
open PySem PySem.Spec PyProof.Rows L2
section
variable {X : Cx} {ds : DE} {m : MS} {st : Stmt} {sts : List Stmt} {E : ED} {R : RX}
/-- what lies between two statements -/
theorem xss_mid (M : DE → MS → Prop) (h1 : XS X st ds m { E with nx := M } R) (h2 : ∀ ds' m', M ds' m' → XSs X sts ds' m' E R) : XSs X (st :: sts) ds m E R :=
  xss_cons fun W tk σ G H e0 w x D kk => h1 W tk σ G H e0 w x D ⟨fun σ' ds' m' G' H' g e' p => kk.nx _ _ _ _ _ g e' (h2 _ _ p), kk.rt, kk.bk, kk.ct⟩
theorem wss_mid (M : DE → MS → Prop) (h1 : WS X st ds m { E with nx := M }) (h2 : ∀ ds' m', M ds' m' → WSs X sts ds' m' E) : WSs X (st :: sts) ds m E :=
  wss_cons fun σ G H e0 w D kk => h1 σ G H e0 w D ⟨fun σ' ds' m' G' H' g e' p => kk.nx _ _ _ _ _ g e' (h2 _ _ p), kk.rt, kk.bk, kk.ct⟩
end
def wX : Wo → PyData
  | none => .none
  | some (w, _) => tx w
def wY : Wo → PyData
  | none => .none
  | some (_, p) => tx p
theorem woP_eq (w : Wo) : woP w = [wX w, wY w] := by cases w with
  | none => rfl
  | some q => rfl
theorem strL_tx (t : List Nat) : strL (tx t) = t := by simp [strL]
theorem getK_in {l : List Int} {k : Int} : (getK (pyK (trK l)) (.inl k)).isSome = decide (k ∈ l) := by rw [getK_py, Option.isSome_map, trK_has]
theorem eraseN_succ {w : Wo} {lo : Int} {s : List (List Nat) × List Int} {n : Nat} : eraseN w lo s (n + 1) = eraseAt w (eraseN w lo s n) (lo + (n : Int)) := by
  unfold eraseN
  rw [List.range_succ, List.foldl_append]
  rfl
theorem eraseN_len {w : Wo} {lo : Int} {s : List (List Nat) × List Int} {n : Nat} : (eraseN w lo s n).1.length = s.1.length := by
  induction n with
  | zero => rfl
  | succ n ih => rw [eraseN_succ]; unfold eraseAt; rw [List.length_set]; exact ih
theorem eraseN_wr {w : Wo} {lo : Int} {s : List (List Nat) × List Int} {n : Nat} : (eraseN w lo s n).2.length ≤ s.2.length := by
  induction n with
  | zero => exact Nat.le_refl _
  | succ n ih => rw [eraseN_succ]; unfold eraseAt; exact Nat.le_trans delI_len ih
theorem overW_ok {w : Wo} (hw : WoOk w) {t u : List Nat} (ht : HexL t ∧ t.length = 256) (hu : HexL u ∧ u.length = 256) : HexL (overW w t u) ∧ (overW w t u).length = 256 := by
  match w, hw with
  | none, _ => exact hu
  | some (_, p), hw => exact ⟨ht.1.torn hw.2.1 hw.2.2.1, by show (tornL t p).length = 256; rw [tornL_len]; exact ht.2⟩
theorem getD_ok {cells : List (List Nat)} (h : ∀ t ∈ cells, HexL t ∧ t.length = 256) {i : Nat} (hi : i < cells.length) : HexL (cells.getD i []) ∧ (cells.getD i []).length = 256 := by
  rw [List.getD_eq_getElem?_getD, List.getElem?_eq_getElem hi]
  exact h _ (List.getElem_mem _)
theorem set_ok {cells : List (List Nat)} (h : ∀ t ∈ cells, HexL t ∧ t.length = 256) {i : Nat} {u : List Nat} (hu : HexL u ∧ u.length = 256) : ∀ t ∈ cells.set i u, HexL t ∧ t.length = 256 := fun t ht => by
  rcases List.mem_or_eq_of_mem_set ht with z | z
  · exact h t z
  · rw [z]; exact hu
theorem eraseN_ok {w : Wo} (hw : WoOk w) {lo : Int} {s : List (List Nat) × List Int} (h : ∀ t ∈ s.1, HexL t ∧ t.length = 256) (hlo : 0 ≤ lo) : ∀ n : Nat, lo + (n : Int) ≤ s.1.length → ∀ t ∈ (eraseN w lo s n).1, HexL t ∧ t.length = 256
  | 0, _ => h
  | n + 1, hn => by
    have ih := eraseN_ok hw h hlo n (by omega)
    rw [eraseN_succ]
    unfold eraseAt
    exact set_ok ih (overW_ok hw (getD_ok ih (by rw [eraseN_len]; omega)) empty_hex)
end W9
namespace W9
open PySem PySem.Spec PyProof.Rows L2
section
variable {X : Cx} {ds : DE} {e : Expr} {i : Nat} {A : CA} {c : Chp} {C : Addr}
theorem we_vx {P : SD → MS → Prop} (hd : ds[i]? = some (some (.raw (.ref A.a)))) (h : WE X e (ds.set i (some (FI X.K C (c.sl A)))) (c.rest A) fun d mV => plD d ∧ ∃ c' : Chp, c'.sl A = c.sl A ∧ mV = c'.rest A ∧ P d (chM C A c')) : WE X e ds (chM C A c) P :=
  we_vi hd (h.mono fun d mV ⟨h1, c', h2, h3, h4⟩ => ⟨h1, by rw [h3]; exact plM_rest, by rw [h3, ← h2]; exact h4⟩)
theorem we_vc {P : SD → MS → Prop} (hd : ds[i]? = some (some (.raw (.ref A.a)))) (h : WE X e (ds.set i (some (FI X.K C (c.sl A)))) (c.rest A) fun d mV => plD d ∧ mV = c.rest A ∧ P d (chM C A c)) : WE X e ds (chM C A c) P :=
  we_vx hd (h.mono fun d mV ⟨h1, h2, h3⟩ => ⟨h1, c, rfl, h2, h3⟩)
theorem wt_vc {P : Bool → MS → Prop} (hd : ds[i]? = some (some (.raw (.ref A.a)))) (h : WT X e (ds.set i (some (FI X.K C (c.sl A)))) (c.rest A) fun d mV => mV = c.rest A ∧ P d (chM C A c)) : WT X e ds (chM C A c) P :=
  wt_vi hd (h.mono fun d mV ⟨h2, h3⟩ => ⟨by rw [h2]; exact plM_rest, by rw [h2]; exact h3⟩)
end
end W9
namespace W9
open PySem PySem.Spec PyProof.Rows L2
theorem we_ife {X : Cx} {ds : DE} {m : MS} {a b c : Expr} {pos : Pos} {k : Bool} {P : SD → MS → Prop} (h : ET X c ds k) (h1 : k = true → WE X a ds m P) (h2 : k = false → WE X b ds m P) : WE X (.IfExp c a b pos) ds m P := we_if (h.to (by
  cases k with
  | true => rw [if_pos rfl]; exact h1 rfl
  | false => rw [if_neg Bool.false_ne_true]; exact h2 rfl))
end W9
namespace W9
/-- n pages of the block b are erased -/
def Chp.erTo (c : Chp) (w : Wo) (b : Int) (n : Nat) : Chp := { c with wear := c.wear.set b.toNat (c.wear.getD b.toNat 0 + 1), cells := (eraseN w (b * c.pg) (c.cells, c.wr) n).1, wr := (eraseN w (b * c.pg) (c.cells, c.wr) n).2 }
theorem erTo_succ (c : Chp) (w : Wo) (b : Int) (k : Nat) : c.erTo w b (k + 1) = { c.erTo w b k with cells := (c.erTo w b k).cells.set (b * c.pg + (k : Int)).toNat (overW w ((c.erTo w b k).cells.getD (b * c.pg + (k : Int)).toNat []) emptyL), wr := delI (c.erTo w b k).wr (b * c.pg + (k : Int)) } := by
  unfold Chp.erTo
  rw [eraseN_succ]
  rfl
end W9
namespace W9
open PySem PySem.Spec PyProof.Rows L2
def flL : PyData → List Flt
  | .tuple l => l.map fun d => match d with | .tuple [.int i, .str w, .str p] => (i, w.cps.toList, p.cps.toList) | _ => (0, [], [])
  | _ => []
def newC (bl pg : Int) (fs : PyData) : Chp := ⟨bl, pg, List.replicate (bl * pg).toNat emptyL, List.replicate bl.toNat 0, [], [], flL fs, 0, 0, true⟩
theorem flL_P {l : List PyData} (h : l.all faultB = true) : l = (flL (.tuple l)).map fun q => PyData.tuple [.int q.1, tx q.2.1, tx q.2.2] := by
  unfold flL
  rw [List.map_map]
  refine ((List.map_congr_left fun d hd => ?_).trans (List.map_id _)).symm
  obtain ⟨i, w, c, rfl, _⟩ := faultB_three (List.all_eq_true.mp h d hd)
  show PyData.tuple [.int i, tx w.cps.toList, tx c.cps.toList] = _
  unfold tx
  rw [← str_eta, ← str_eta]
  rfl
theorem flL_ats {l : List PyData} (h : l.all faultB = true) : (flL (.tuple l)).map (·.1) = l.map ftI := by
  unfold flL
  rw [List.map_map]
  refine List.map_congr_left fun d hd => ?_
  obtain ⟨i, w, c, rfl, _⟩ := faultB_three (List.all_eq_true.mp h d hd)
  rfl
theorem asc_nd {l : List Int} (h : ascI l = true) : l.Nodup := (ascI_pw.mp h).imp fun z => Int.ne_of_lt z
theorem flL_nd {l : List PyData} (h : faultsB (.tuple l) = true) : ((flL (.tuple l)).map (·.1)).Nodup := by
  have h : (l.all faultB && ascI (l.map ftI)) = true := h
  rw [Bool.and_eq_true] at h
  rw [flL_ats h.1]
  exact asc_nd h.2
theorem lf_txts : ∀ l : List (List Nat), lfD (.tuple (txts l)) = true := fun l => by
  show lfD.lfAll (txts l) = true
  induction l with
  | nil => rfl
  | cons t l ih => exact ih
theorem lf_ints : ∀ l : List Int, lfD (.tuple (l.map .int)) = true := fun l => by
  show lfD.lfAll (l.map PyData.int) = true
  induction l with
  | nil => rfl
  | cons t l ih => exact ih
end W9
namespace W9
open PySem PySem.Spec PyProof.Rows L2
section
variable {X : Cx} {ds : DE} {m : MS} {e a b c tg : Expr} {es rest : List Expr} {pos : Pos}
/-! ### comprehensions whose list is owned, with any target -/
theorem lc_readO {elt iter : Expr} {ifs : List Expr} {scope : Scope} {own : List (Str × Nat)} {σ : L2.St} {G H : Hp} {Q : VK} (e0 : EnvD X.K G σ ds) (w : Wd X.K m G H) {P : List PyData → MS → Prop}
    (h : WI X tg iter ds m fun xs m1 => xs.length ≤ 1000000 ∧ ∃ Iv : Nat → List PyData → MS → Prop, Iv 0 [] m1 ∧
      (∀ i x acc m', xs[i]? = some x → acc.length ≤ i → Iv i acc m' → LcTurn X scope tg elt ifs (own.map (·.2)) x ds m' (fun d m4 => Iv (i + 1) (acc ++ [d]) m4) (fun m4 => Iv (i + 1) acc m4)) ∧ ∀ acc m', acc.length ≤ xs.length → Iv xs.length acc m' → P acc m')
    (q : ∀ p acc m' G' H', Gr X.K m ((p, .dl acc) :: m') G H G' H' → P acc m' → Q (.ref p) H') :
    tLc (wI X tg iter) (fun v σ H Q => ∀ s H0 C cl fp, wG (Blk X scope s H0 C cl fp) tg v σ H Q) (fun σ H Q => ∀ s H0 C cl fp, wTs (Blk X scope s H0 C cl fp) ifs σ H Q) (fun σ H Q => ∀ s H0 C cl fp, wE (Blk X scope s H0 C cl fp) elt σ H Q) (own.map (·.2)) σ H Q := by
  refine h σ G H e0 w _ fun J xs m1 G1 H1 g1 it ⟨hbig, Iv, i0, turn, fin⟩ => fun Dl hD => ?_
  obtain ⟨go, stop, yld⟩ := it
  have gD := Gr.made (o := .lst []) (v := .dl []) g1.wd hD ⟨[], rfl, .nil⟩
  refine ⟨fun i mm H' => mm = xs.length - i ∧ i ≤ xs.length ∧ ∃ acc m' G', Gr X.K m1 ((Dl, .dl acc) :: m') G1 H1 G' H' ∧ acc.length ≤ i ∧ Iv i acc m', ⟨_, rfl, Nat.zero_le _, [], m1, G1, gD, Nat.le_refl _, i0⟩, ?_⟩
  rintro i mm H' ⟨rfl, hi, acc, m', G', g2, hacc, iv⟩
  by_cases hlt : i < xs.length
  · refine .inr ⟨go i H' (g2.g.trans g2.wd.w) hlt, fun H'' => ∃ acc'' m'' G'', Gr X.K m1 ((Dl, .dl acc'') :: m'') G1 H1 G'' H'' ∧ acc''.length ≤ i + 1 ∧ Iv (i + 1) acc'' m'', fun H'' ⟨acc'', m'', G'', a, b, c⟩ => ⟨xs.length - (i + 1), by omega, rfl, hlt, acc'', m'', G'', a, b, c⟩, fun x H3 y => ?_⟩
    obtain ⟨G3, d, g3, hd, r3⟩ := yld i _ G' H' x H3 g2.g g2.wd hlt y
    intro s H0 C cl fp
    have e3 : EnvD X.K G3 (L2.wipe σ (own.map (·.2))) (wipeD ds (own.map (·.2))) := (e0.mono ((g1.trans g2).trans g3).g).wipe _
    have w3 : Wd X.K m' G3 H3 := Wd.sub (fr := [(Dl, .dl acc)]) g3.wd
    refine turn i d acc m' hd hacc iv s H0 C cl fp _ G3 H3 x e3 w3 r3 _ fun σ4 ds4 m4 G4 H4 g4 e4 k4 p4 => ?_
    have f4 := Gr.frame (fr := [(Dl, .dl acc)]) g3.wd g4
    refine ⟨wipe_same (by rw [k4.2, L2.wipe_length]) k4.1, fun s H0 C cl fp => ?_⟩
    refine p4 s H0 C cl fp σ4 G4 H4 e4 g4.wd _ fun kk m5 G5 H5 g5 p5 => ?_
    have f5 := Gr.frame (fr := [(Dl, .dl acc)]) f4.wd g5
    cases kk with
    | false =>
      rw [if_neg Bool.false_ne_true] at p5 ⊢
      exact ⟨acc, m5, G5, ((g2.trans g3).trans f4).trans f5, by omega, p5⟩
    | true =>
      rw [if_pos rfl] at p5 ⊢
      intro s H0 C cl fp
      refine p5 s H0 C cl fp σ4 G5 H5 (e4.mono g5.g) g5.wd _ fun v d6 m6 G6 H6 g6 r6 ⟨d', e6, p6⟩ => ?_
      subst e6
      have f6 := Gr.frame (fr := [(Dl, .dl acc)]) f5.wd g6
      obtain ⟨vs, h1, h2⟩ := own_get f6.wd List.mem_cons_self
      have hlen := dpa_length h2
      have r7 : Dp X.K G6 v d' := by
        cases r6 with
        | py z => exact z
      have g7 := Gr.set (o := .lst (vs ++ [v])) (v := .dl (acc ++ [d'])) f6.wd List.mem_cons_self ⟨_, rfl, dpa_append h2 (.cons r7 .nil)⟩
      have em : mset ([(Dl, OV.dl acc)] ++ m6) Dl (.dl (acc ++ [d'])) = (Dl, .dl (acc ++ [d'])) :: m6 := by
        have nd := f6.wd.nd
        unfold ad at nd
        rw [List.singleton_append, List.map_cons, List.nodup_cons] at nd
        show (if Dl = Dl then (Dl, OV.dl (acc ++ [d'])) else (Dl, OV.dl acc)) :: m6.map _ = _
        rw [if_pos rfl]
        congr 1
        refine (List.map_congr_left fun q hq => ?_).trans (List.map_id _)
        have ne : q.1 ≠ Dl := fun z => nd.1 (List.mem_map.mpr ⟨q, hq, z⟩)
        rw [if_neg ne]
        rfl
      rw [em] at g7
      refine ⟨vs, h1, by have := sizeLine_eq; omega, acc ++ [d'], m6, G6, ((((g2.trans g3).trans f4).trans f5).trans f6).trans g7, by rw [List.length_append]; show acc.length + 1 ≤ i + 1; omega, p6⟩
  · have e : i = xs.length := by omega
    subst e
    exact .inl ⟨stop H' (g2.g.trans g2.wd.w), q Dl acc m' _ H' (g1.trans g2) (fin _ _ hacc iv)⟩
theorem we_lcO {elt iter : Expr} {ifs : List Expr} {scope : Scope} {P : SD → MS → Prop} (own : List (Str × Nat)) (hN : X.N.Nodup)
    (h : WI X tg iter ds m fun xs m1 => xs.length ≤ 1000000 ∧ ∃ Iv : Nat → List PyData → MS → Prop, Iv 0 [] m1 ∧
      (∀ i x acc m', xs[i]? = some x → acc.length ≤ i → Iv i acc m' → LcTurn X scope tg elt ifs (own.map (·.2)) x ds m' (fun d m4 => Iv (i + 1) (acc ++ [d]) m4) (fun m4 => Iv (i + 1) acc m4)) ∧ ∀ acc m', acc.length ≤ xs.length → Iv xs.length acc m' → ∀ p, p ∉ ad m' → P (.raw (.ref p)) ((p, .dl acc) :: m'))
    (ok : BlkOk X.N X.env.scope scope own) (hc : X.calm = true := by rfl) (hs : ∀ x, foldedSetIterable iter X.env x = pure x := by intro _; rfl) : WE X (.ListComp elt [⟨tg, iter, ifs, 0⟩] scope pos) ds m P := fun σ G H e0 w Q q =>
  oE (pe_lc (own := own) hc hN (pI tg iter) ok (fun s H C cl fp => ⟨fun pins s' σ H' v u Q I r h => h s H C cl fp pins s' u I r⟩) (fun s H C cl fp => ⟨fun pins s' σ H' Q I h => h s H C cl fp pins s' I⟩) (fun s H C cl fp => ⟨fun pins s' σ H' Q I h => h s H C cl fp pins s' I⟩) hs)
    (lc_readO (P := fun acc m' => ∀ p, p ∉ ad m' → P (.raw (.ref p)) ((p, .dl acc) :: m')) e0 w h fun p acc m' G' H' g r => q _ _ _ G' H' g (.raw _) (r p (by
      have nd := g.wd.nd
      unfold ad at nd ⊢
      rw [List.map_cons, List.nodup_cons] at nd
      exact nd.1)))
theorem WI.mono {iter : Expr} {P P' : List SD → MS → Prop} (h : WI X tg iter ds m P) (k : ∀ xs m', P xs m' → P' xs m') : WI X tg iter ds m P' := fun σ G H E w R' q => h σ G H E w R' fun J xs m' G' H' g i p => q J xs m' G' H' g i (k _ _ p)
/-- a turn with any target: up, the slots behind it -/
theorem turnG {α : Type} {elt : Expr} {ifs : List Expr} {scope : Scope} {js : List Nat} (l : List α) (g : α → SD) (p : α → Bool) (h : α → PyData) (up : α → DE → DE)
    (wg : ∀ x ∈ l, ∀ s H C cl fp (ds : DE) m (Q : DE → MS → Prop), Q (up x ds) m → WG (Blk X scope s H C cl fp) tg js (g x) ds m Q)
    (tst : ∀ x ∈ l, AllBlk X scope fun Y => ∀ Q : Bool → MS → Prop, Q (p x) m → WTs Y ifs (up x (wipeD ds js)) m Q)
    (turn : ∀ x ∈ l, p x = true → AllBlk X scope fun Y => ∀ Q : SD → MS → Prop, Q (.py (h x)) m → WE Y elt (up x (wipeD ds js)) m Q)
    {i : Nat} {x : SD} {acc : List PyData} {m' : MS} (hy : (l.map g)[i]? = some x) (e1 : acc = ((l.take i).filter p).map h) (e2 : m' = m) :
    LcTurn X scope tg elt ifs js x ds m' (fun d m4 => acc ++ [d] = ((l.take (i + 1)).filter p).map h ∧ m4 = m) (fun m4 => acc = ((l.take (i + 1)).filter p).map h ∧ m4 = m) := by
  subst e1 e2
  obtain ⟨a, qa, rfl⟩ := map_get hy
  have hm := List.mem_of_getElem? qa
  refine fun s H C cl fp => wg a hm s H C cl fp _ _ _ fun s H C cl fp => tst a hm s H C cl fp _ ?_
  cases z : p a with
  | true =>
    rw [if_pos rfl]
    refine fun s H C cl fp => turn a hm z s H C cl fp _ ⟨_, rfl, ?_, rfl⟩
    rw [List.take_add_one, qa, List.filter_append, List.map_append]
    show _ = _ ++ ([a].filter p).map h
    rw [List.filter_cons_of_pos z]
    rfl
  | false =>
    rw [if_neg Bool.false_ne_true]
    refine ⟨?_, rfl⟩
    rw [List.take_add_one, qa, List.filter_append, List.map_append]
    show _ = _ ++ ([a].filter p).map h
    rw [List.filter_cons_of_neg (by rw [z]; exact Bool.false_ne_true)]
    simp
section
variable {α : Type} {elt iter : Expr} {ifs : List Expr} {scope : Scope} {js : List Nat}
theorem we_lcG {P : SD → MS → Prop} (l : List α) (g : α → SD) (p : α → Bool) (h : α → PyData) (up : α → DE → DE) (own : List (Str × Nat)) (ho : own.map (·.2) = js) (hN : X.N.Nodup)
    (hi : WI X tg iter ds m fun xs m1 => xs = l.map g ∧ m1 = m) (hl : l.length ≤ 1000000)
    (wg : ∀ x ∈ l, ∀ s H C cl fp (ds : DE) m (Q : DE → MS → Prop), Q (up x ds) m → WG (Blk X scope s H C cl fp) tg js (g x) ds m Q)
    (tst : ∀ x ∈ l, AllBlk X scope fun Y => ∀ Q : Bool → MS → Prop, Q (p x) m → WTs Y ifs (up x (wipeD ds js)) m Q)
    (turn : ∀ x ∈ l, p x = true → AllBlk X scope fun Y => ∀ Q : SD → MS → Prop, Q (.py (h x)) m → WE Y elt (up x (wipeD ds js)) m Q)
    (ok : BlkOk X.N X.env.scope scope own) (q : P (Ls ((l.filter p).map h)) m) (hc : X.calm = true := by rfl) (hs : ∀ x, foldedSetIterable iter X.env x = pure x := by intro _; rfl) : WE X (.ListComp elt [⟨tg, iter, ifs, 0⟩] scope pos) ds m P :=
  we_lc own hN (WI.mono hi fun xs m1 ⟨e1, e2⟩ => ⟨by rw [e1, List.length_map]; exact hl, fun i acc m' => acc = ((l.take i).filter p).map h ∧ m' = m, ⟨rfl, e2⟩, fun i y acc m' hy _ ⟨e3, e4⟩ => by
    rw [ho]; subst e1; exact turnG l g p h up wg tst turn hy e3 e4, fun acc m' _ ⟨e3, e4⟩ => by
    subst e1
    rw [List.length_map, List.take_length] at e3
    subst e3 e4
    exact q⟩) ok hc hs
theorem we_lcOG {P : SD → MS → Prop} (l : List α) (g : α → SD) (p : α → Bool) (h : α → PyData) (up : α → DE → DE) (own : List (Str × Nat)) (ho : own.map (·.2) = js) (hN : X.N.Nodup)
    (hi : WI X tg iter ds m fun xs m1 => xs = l.map g ∧ m1 = m) (hl : l.length ≤ 1000000)
    (wg : ∀ x ∈ l, ∀ s H C cl fp (ds : DE) m (Q : DE → MS → Prop), Q (up x ds) m → WG (Blk X scope s H C cl fp) tg js (g x) ds m Q)
    (tst : ∀ x ∈ l, AllBlk X scope fun Y => ∀ Q : Bool → MS → Prop, Q (p x) m → WTs Y ifs (up x (wipeD ds js)) m Q)
    (turn : ∀ x ∈ l, p x = true → AllBlk X scope fun Y => ∀ Q : SD → MS → Prop, Q (.py (h x)) m → WE Y elt (up x (wipeD ds js)) m Q)
    (ok : BlkOk X.N X.env.scope scope own) (q : ∀ pp, pp ∉ ad m → P (.raw (.ref pp)) ((pp, .dl ((l.filter p).map h)) :: m)) (hc : X.calm = true := by rfl) (hs : ∀ x, foldedSetIterable iter X.env x = pure x := by intro _; rfl) : WE X (.ListComp elt [⟨tg, iter, ifs, 0⟩] scope pos) ds m P :=
  we_lcO own hN (WI.mono hi fun xs m1 ⟨e1, e2⟩ => ⟨by rw [e1, List.length_map]; exact hl, fun i acc m' => acc = ((l.take i).filter p).map h ∧ m' = m, ⟨rfl, e2⟩, fun i y acc m' hy _ ⟨e3, e4⟩ => by
    rw [ho]; subst e1; exact turnG l g p h up wg tst turn hy e3 e4, fun acc m' _ ⟨e3, e4⟩ => by
    subst e1
    rw [List.length_map, List.take_length] at e3
    subst e3 e4
    exact q⟩) ok hc hs
theorem ws_setLcG {i : Nat} {y : Str} {py spos : Pos} {E : ED} (l : List α) (g : α → SD) (p : α → Bool) (h : α → PyData) (up : α → DE → DE) (own : List (Str × Nat)) (ho : own.map (·.2) = js) (hN : X.N.Nodup)
    (hi : WI X tg iter ds m fun xs m1 => xs = l.map g ∧ m1 = m) (hl : l.length ≤ 1000000)
    (wg : ∀ x ∈ l, ∀ s H C cl fp (ds : DE) m (Q : DE → MS → Prop), Q (up x ds) m → WG (Blk X scope s H C cl fp) tg js (g x) ds m Q)
    (tst : ∀ x ∈ l, AllBlk X scope fun Y => ∀ Q : Bool → MS → Prop, Q (p x) m → WTs Y ifs (up x (wipeD ds js)) m Q)
    (turn : ∀ x ∈ l, p x = true → AllBlk X scope fun Y => ∀ Q : SD → MS → Prop, Q (.py (h x)) m → WE Y elt (up x (wipeD ds js)) m Q)
    (ok : BlkOk X.N X.env.scope scope own) (q : E.nx (ds.set i (some (Ls ((l.filter p).map h)))) m) (hsw : swapsWith (.ListComp elt [⟨tg, iter, ifs, 0⟩] scope pos) (some (.Name y py)) spos.line X.env = pure true := by rfl) (hix : X.N[i]? = some y := by rfl) (hyl : X.env.scope.names.lookup y = some .local := by rfl)
    (hc : X.calm = true := by rfl) (hs : ∀ x, foldedSetIterable iter X.env x = pure x := by intro _; rfl) : WS X (.Assign [.Name y py] (.ListComp elt [⟨tg, iter, ifs, 0⟩] scope pos) spos) ds m E :=
  ws_setLc own hN (WI.mono hi fun xs m1 ⟨e1, e2⟩ => ⟨by rw [e1, List.length_map]; exact hl, fun i acc m' => acc = ((l.take i).filter p).map h ∧ m' = m, ⟨rfl, e2⟩, fun i y acc m' hy _ ⟨e3, e4⟩ => by
    rw [ho]; subst e1; exact turnG l g p h up wg tst turn hy e3 e4, fun acc m' _ ⟨e3, e4⟩ => by
    subst e1
    rw [List.length_map, List.take_length] at e3
    subst e3 e4
    exact q⟩) ok hsw hix hyl hc hs
end
/-! ### and, step by step -/
theorem we_one {op} {P : SD → MS → Prop} (h : WE X a ds m P) : WE X (.BoolOp op [a] pos) ds m P := fun σ G H E w Q q => oE (pe_one (pE a)) (h σ G H E w Q q)
theorem we_and {P : SD → MS → Prop} (h : WE X a ds m fun d m1 => ∃ k, d = B k ∧ if k = true then WE X (.BoolOp .And (b :: rest) pos) ds m1 P else P (B false) m1) : WE X (.BoolOp .And (a :: b :: rest) pos) ds m P := fun σ G H E w Q q => oE (pe_and (pE a) (pE _)) (by
  refine h σ G H E w _ fun v d m1 G1 H1 g1 r1 ⟨k, e1, p⟩ => ?_
  subst e1
  obtain rfl := ds_bl r1
  refine ⟨k, rfl, ?_⟩
  cases k with
  | true =>
    rw [if_pos rfl] at p ⊢
    exact p σ G1 H1 (E.mono g1.g) g1.wd _ fun l' d' m2 G2 H2 g2 r2 p2 => q _ _ _ _ _ (g1.trans g2) r2 p2
  | false =>
    rw [if_neg Bool.false_ne_true] at p ⊢
    exact q _ _ _ _ _ g1 r1 p)
end
end W9
namespace W9
open PySem PySem.Spec PyProof.Rows L2
section
variable {X : Cx} {ds : DE} {m : MS} {e o i : Expr} {es : List Expr} {pos tpos : Pos}
/-- d[k] as a target -/
theorem wg_putD {p : Addr} {k : Key} {l : List (Key × SD)} {d : SD} {P : DE → MS → Prop} (hu : X.A.units + 1 < cLine) (ho : EE X o ds (.raw (.ref p))) (hi : EE X i ds (.py (keyP k))) (hm : (p, OV.ds l) ∈ m) (hl : l.length < 1000000) (h : P ds (mset m p (.ds (setK l k d))))
    (ha : ∀ v, assign (.Subscript o i tpos) X.env v = (do
      let ov ← holding [v] (eval o X.env)
      let iv ← holding [v, ov] (eval i X.env)
      standAt tpos
      holding [v, ov, iv] (setItem ov iv v)
      release [v, ov, iv] []) := by intro _; rfl) : WG X (.Subscript o i tpos) [] d ds m P := fun σ G H y E w ry Q q => oG (pg_sub (pE o) (pE i) (set_dict hu) ha) (ho _ σ G H E w _ fun v d1 m1 G1 H1 g1 r1 ⟨e1, e2⟩ => by
  subst e1 e2
  cases ds_raw r1
  refine hi _ σ G1 H1 (E.mono g1.g) g1.wd _ fun v2 d2 m2 G2 H2 g2 r2 ⟨e1, e2⟩ => ?_
  subst e1 e2
  obtain ⟨kvs, e1, e2⟩ := own_ds g2.wd hm
  cases key_v r2
  refine ⟨p, _, rfl, DPut.k (k := k) e1 (by rw [dsk_len e2]; have := sizeLine_eq; omega), ?_⟩
  have g4 := Gr.set (o := .dK (putK kvs k y)) (v := .ds (setK l k d)) g2.wd hm ⟨_, rfl, dsk_put e2 (ds_mono (g1.trans g2).g ry)⟩
  exact q _ _ _ _ _ ((g1.trans g2).trans g4) (E.mono ((g1.trans g2).trans g4).g) ⟨fun _ _ => rfl, rfl⟩ h)
/-- a dict, a list that was just made becomes data at once -/
theorem we_lock {P : SD → MS → Prop} (h : WE X e ds m fun d m' => ∃ p l m2, d = .raw (.ref p) ∧ m' = (p, .ds (pyK l)) :: m2 ∧ P (Dd l) m2) : WE X e ds m P := fun σ G H E w Q q => by
  intro pins s I
  refine wpAny_mono (h σ G H E w (fun v H1 => ∃ G1 p l m2, v = .ref p ∧ Gr X.K m ((p, .ds (pyK l)) :: m2) G H G1 H1 ∧ P (Dd l) m2) (fun v d m1 G1 H1 g1 r1 ⟨p, l, m2, e1, e2, hp⟩ => by
    subst e1 e2
    exact ⟨G1, p, l, m2, ds_raw r1, g1, hp⟩) pins s I) (fun u s' ⟨v, H1, I1, rv, G1, p, l, m2, ev, g1, hp⟩ => ?_) fun _ _ z => z
  subst ev
  obtain ⟨G', H', g, r, J⟩ := lock_run g1.wd I1
  exact ⟨_, H', J, rv, q _ _ m2 G' H' (g1.trans g) r hp⟩
theorem ee_d0 : EE X (.Dict [] [] pos) ds (Dd []) := fun m => we_lock (we_dnew fun p hp => ⟨p, [], m, rfl, rfl, rfl, rfl⟩)
/-- list(l), owned -/
theorem we_listLO {l : List PyData} {x : Str} {p : Pos} {P : SD → MS → Prop} (h : EE X e ds (Ls l)) (k : ∀ p, p ∉ ad m → P (.raw (.ref p)) ((p, .dl l) :: m))
    (hm : X.mg x = none) (hv : bootBuiltins x = some (.type "list")) (hg : Gl X x := by rfl) (hn : x ≠ "__name__" := by decide) (hdb : (x == ("__debug__" : Str)) = false := by decide)
    (he : starEach (e :: []) X.env = (false, eval e X.env) :: starEach [] X.env := by rfl) (hpl : (backTo pos (starEach [] X.env)).any (·.1) = false := by rfl) : WE X (.Call (.Name x p) [e] [] pos) ds m P := fun σ G H E w Q q =>
  oE (pe_callTy call_list_of hg hm hv (pA [e]) hn hdb he hpl) ((ea_cons h ea_nil he : EA X [e] ds _) m σ G H E w _ fun vs xs m1 G1 H1 g1 r1 ⟨e1, e2⟩ => by
    subst e1 e2
    cases r1 with
    | cons r1 r2 =>
      cases r2
      obtain ⟨a, ys, rfl, h1, h2⟩ := ds_lst r1
      refine ⟨a, ys, rfl, .inl (ex_l g1.wd.w h1), fun p hp => ?_⟩
      have g2 := Gr.made (o := .lst ys) (v := .dl l) g1.wd hp ⟨_, rfl, h2⟩
      exact q _ _ _ _ _ (g1.trans g2) (.raw _) (k p (List.nodup_cons.mp g2.wd.nd).1))
end
end W9
namespace W9
open PySem PySem.Spec PyProof.Rows L2
/-! ### the law's own chip, as a dict -/
structure Own where
  bl : Int
  pg : Int
  cells : List (List Nat)
  wear : List Int
  bad : List Int
  wr : List (Int × List Nat)
  fs : List Flt
  done : Int
  cuts : Int
  on : Bool
def wrK (l : List (Int × List Nat)) : List (Key × PyData) := l.map fun q => (.inl q.1, tx q.2)
abbrev dictP (l : List (Key × PyData)) : PyData := .dict (l.map fun q => (keyP q.1, q.2))
def f3P (q : Flt) : PyData := .tuple [.int q.1, tx q.2.1, tx q.2.2]
def Own.d (o : Own) : List (Key × PyData) := [(.inr "blocks", .int o.bl), (.inr "pages", .int o.pg), (.inr "cells", .list (txts o.cells)), (.inr "wear", .list (o.wear.map .int)), (.inr "bad", .list (o.bad.map .int)), (.inr "written", dictP (wrK o.wr)),
  (.inr "faults", .list (o.fs.map f3P)), (.inr "done", .int o.done), (.inr "cuts", .int o.cuts), (.inr "is_on", .bool o.on)]
def ownKs : List Key := [.inr "blocks", .inr "pages", .inr "cells", .inr "wear", .inr "bad", .inr "written", .inr "faults", .inr "done", .inr "cuts", .inr "is_on"]
theorem ownKs_nd : ownKs.Nodup := by decide +kernel
section
variable {o : Own}
theorem own_nd : (o.d.map (·.1)).Nodup := ownKs_nd
theorem own_ndS : ((pyK o.d).map (·.1)).Nodup := by rw [pyK_keys]; exact own_nd
theorem gk_pages : getK o.d (.inr "pages") = some (.int o.pg) := getK_at (i := 1) own_nd rfl
theorem gk_cells : getK o.d (.inr "cells") = some (.list (txts o.cells)) := getK_at (i := 2) own_nd rfl
theorem gk_wear : getK o.d (.inr "wear") = some (.list (o.wear.map .int)) := getK_at (i := 3) own_nd rfl
theorem gk_bad : getK o.d (.inr "bad") = some (.list (o.bad.map .int)) := getK_at (i := 4) own_nd rfl
theorem gk_written : getK o.d (.inr "written") = some (dictP (wrK o.wr)) := getK_at (i := 5) own_nd rfl
theorem gk_faults : getK o.d (.inr "faults") = some (.list (o.fs.map f3P)) := getK_at (i := 6) own_nd rfl
theorem gk_done : getK o.d (.inr "done") = some (.int o.done) := getK_at (i := 7) own_nd rfl
theorem gk_cuts : getK o.d (.inr "cuts") = some (.int o.cuts) := getK_at (i := 8) own_nd rfl
theorem gk_is_on : getK o.d (.inr "is_on") = some (.bool o.on) := getK_at (i := 9) own_nd rfl
theorem sk_cells (x : List (List Nat)) : setK (pyK o.d) (.inr "cells") (.py (.list (txts x))) = pyK { o with cells := x }.d := by rw [setK_pyK, setK_at (i := 2) own_nd rfl]; rfl
theorem sk_wear (x : List Int) : setK (pyK o.d) (.inr "wear") (.py (.list (x.map .int))) = pyK { o with wear := x }.d := by rw [setK_pyK, setK_at (i := 3) own_nd rfl]; rfl
theorem sk_bad (x : List Int) : setK (pyK o.d) (.inr "bad") (.py (.list (x.map .int))) = pyK { o with bad := x }.d := by rw [setK_pyK, setK_at (i := 4) own_nd rfl]; rfl
theorem sk_written (x : List (Int × List Nat)) : setK (pyK o.d) (.inr "written") (.py (dictP (wrK x))) = pyK { o with wr := x }.d := by rw [setK_pyK, setK_at (i := 5) own_nd rfl]; rfl
theorem sk_faults (x : List Flt) : setK (pyK o.d) (.inr "faults") (.py (.list (x.map f3P))) = pyK { o with fs := x }.d := by rw [setK_pyK, setK_at (i := 6) own_nd rfl]; rfl
theorem sk_done (x : Int) : setK (pyK o.d) (.inr "done") (.py (.int x)) = pyK { o with done := x }.d := by rw [setK_pyK, setK_at (i := 7) own_nd rfl]; rfl
theorem sk_cuts (x : Int) : setK (pyK o.d) (.inr "cuts") (.py (.int x)) = pyK { o with cuts := x }.d := by rw [setK_pyK, setK_at (i := 8) own_nd rfl]; rfl
theorem sk_is_on (x : Bool) : setK (pyK o.d) (.inr "is_on") (.py (.bool x)) = pyK { o with on := x }.d := by rw [setK_pyK, setK_at (i := 9) own_nd rfl]; rfl
theorem own_len : (pyK o.d).length = 10 := rfl
theorem mrg_own : mrgK [] (pyK o.d) = pyK o.d := mrgK_nil own_ndS
/-- a dict of one's own in it: its number of entries, its place -/
def Own.dR (o : Own) (p : Addr) : List (Key × SD) := (pyK o.d).set 5 (.inr "written", .raw (.ref p))
theorem sk_wraw (p : Addr) : setK (pyK o.d) (.inr "written") (.raw (.ref p)) = o.dR p := by rw [setK_at (i := 5) own_ndS rfl]; rfl
theorem dR_nd (p : Addr) : ((o.dR p).map (·.1)).Nodup := ownKs_nd
theorem gk_wraw (p : Addr) : getK (o.dR p) (.inr "written") = some (.raw (.ref p)) := getK_at (i := 5) (dR_nd p) rfl
theorem dR_seal (p : Addr) (x : List (Int × List Nat)) : (o.dR p).map (fun z => if z.1 = (.inr "written" : Key) then (z.1, Dd (wrK x)) else z) = pyK { o with wr := x }.d := by
  rw [setK_map (i := 5) (dR_nd p) rfl]; rfl
end
/-! ### deeds -/
def Own.word (o : Own) : List Nat × List Nat := match o.fs.find? fun q => decide (q.1 = o.done + 1) with
  | some q => q.2
  | none => ([], [])
def Own.deed (o : Own) (b : Int) (w : List Nat) : Own × PyData :=
  let o1 := { o with done := o.done + 1 }
  if w = cutL then ({ o1 with cuts := o.cuts + 1, on := false }, tx cutL)
  else if w = badL ∧ b ∉ o.bad then ({ o1 with bad := srtI (o.bad ++ [b]) }, .bool (!decide (b ∈ srtI (o.bad ++ [b]))))
  else (o1, .bool (!decide (b ∈ o.bad)))
def putW (l : List (Int × List Nat)) (k : Int) (t : List Nat) : List (Int × List Nat) := if k ∈ l.map (·.1) then l.map (fun q => if q.1 = k then (k, t) else q) else l ++ [(k, t)]
theorem wrK_keys (l : List (Int × List Nat)) : (wrK l).map (·.1) = (l.map (·.1)).map Sum.inl := by unfold wrK; rw [List.map_map, List.map_map]; rfl
theorem wrK_put {l : List (Int × List Nat)} {k : Int} {t : List Nat} : setK (wrK l) (.inl k) (tx t) = wrK (putW l k t) := by
  unfold putW
  by_cases h : k ∈ l.map (·.1)
  · rw [if_pos h]
    have e : ((wrK l).any fun q => decide (q.1 = (.inl k : Key))) = true := by
      obtain ⟨q, hq, e⟩ := List.mem_map.mp h
      exact List.any_eq_true.mpr ⟨(.inl q.1, tx q.2), List.mem_map.mpr ⟨q, hq, rfl⟩, decide_eq_true (by rw [e])⟩
    unfold setK
    rw [if_pos e]
    unfold wrK
    rw [List.map_map, List.map_map]
    refine List.map_congr_left fun q _ => ?_
    show (if (Sum.inl q.1 : Key) = .inl k then ((Sum.inl q.1 : Key), tx t) else (.inl q.1, tx q.2)) = ((Sum.inl (if q.1 = k then (k, t) else q).1 : Key), tx (if q.1 = k then (k, t) else q).2)
    by_cases hk : q.1 = k
    · rw [if_pos hk, if_pos (by rw [hk]), hk]
    · rw [if_neg hk, if_neg (fun z => hk (Sum.inl.inj z))]
  · rw [if_neg h, setK_new (fun z => by
      rw [wrK_keys] at z
      obtain ⟨j, hj, e⟩ := List.mem_map.mp z
      exact h (Sum.inl.inj e ▸ hj))]
    unfold wrK
    rw [List.map_append]
    rfl
def Own.written (o : Own) (i : Int) (t : List Nat) : Own × PyData :=
  let w := o.word
  let r := o.deed (i / o.pg) w.1
  if i / o.pg ∈ o.bad then r
  else ({ r.1 with cells := o.cells.set i.toNat (if w.1 = [] then t else tornL t w.2), wr := if w.1 = [] then putW o.wr i t else o.wr }, r.2)
def ownErase (w : List Nat × List Nat) (cs : List (List Nat)) (i : Int) : List (List Nat) := cs.set i.toNat (if w.1 = [] then emptyL else tornL (cs.getD i.toNat []) w.2)
def ownEraseN (w : List Nat × List Nat) (lo : Int) (cs : List (List Nat)) (n : Nat) : List (List Nat) := (List.range n).foldl (fun s (k : Nat) => ownErase w s (lo + (k : Int))) cs
theorem ownEraseN_succ {w : List Nat × List Nat} {lo : Int} {s : List (List Nat)} {n : Nat} : ownEraseN w lo s (n + 1) = ownErase w (ownEraseN w lo s n) (lo + (n : Int)) := by
  unfold ownEraseN
  rw [List.range_succ, List.foldl_append]
  rfl
theorem ownEraseN_len {w : List Nat × List Nat} {lo : Int} {s : List (List Nat)} {n : Nat} : (ownEraseN w lo s n).length = s.length := by
  induction n with
  | zero => rfl
  | succ n ih => rw [ownEraseN_succ]; unfold ownErase; rw [List.length_set]; exact ih
def Own.erased (o : Own) (b : Int) : Own × PyData :=
  let w := o.word
  let r := o.deed b w.1
  if b ∈ o.bad then r
  else ({ r.1 with cells := ownEraseN w (b * o.pg) o.cells o.pg.toNat, wear := o.wear.set b.toNat (o.wear.getD b.toNat 0 + 1), wr := o.wr.filter fun q => !decide (q.1 ∈ (List.range o.pg.toNat).map fun (k : Nat) => b * o.pg + (k : Int)) }, r.2)
def wrGet (l : List (Int × List Nat)) (i : Int) : List Nat := ((l.find? fun q => decide (q.1 = i)).map (·.2)).getD []
def hx (c : Nat) : Int := ((hexS.idxOf c : Nat) : Int)
def Own.canFade (o : Own) (i : Int) (cell sign : PyData) : Bool :=
  if (intB 0 255 cell && cellsB 1 1 sign) = false then false
  else if o.cells.getD i.toNat [] = emptyL ∨ wrGet o.wr i ≠ o.cells.getD i.toNat [] then false
  else decide ((strL sign).headD 0 < (o.cells.getD i.toNat []).getD (toI cell).toNat 0)
def Own.faded (o : Own) (i : Int) (cell sign : PyData) : Own := { o with cells := o.cells.set i.toNat (fadeT (o.cells.getD i.toNat []) (toI cell) (strL sign)) }
def newO (bl pg : Int) (fs : PyData) : Own := ⟨bl, pg, List.replicate (bl * pg).toNat emptyL, List.replicate bl.toNat 0, [], [], flL fs, 0, 0, true⟩
end W9
namespace W9
open PySem PySem.Spec PyProof.Rows L2
structure FsOk (fs : List Flt) : Prop where
  l : fs.length ≤ 60
  k : ∀ q ∈ fs, (q.2.1 = cutL ∨ q.2.1 = badL) ∧ HexL q.2.2 ∧ q.2.2 ≠ [] ∧ q.2.2.length ≤ 256
  n : (fs.map (·.1)).Nodup
theorem rep_flat {α : Type} (n : Nat) (x : α) : (List.replicate n [x]).flatten = List.replicate n x := by
  induction n with
  | zero => rfl
  | succ n ih => rw [List.replicate_succ, List.flatten_cons, ih]; rfl
theorem hex_pl {l : List Nat} (h : HexL l) : ∀ c ∈ l, c < 1114112 := fun c hc => by have := hex_128 (h c hc); omega
theorem word_pl {w : List Nat} (h : w = cutL ∨ w = badL) : ∀ c ∈ w, c < 1114112 := by
  rcases h with rfl | rfl <;> decide
theorem can_str {w : List Nat} (h : ∀ c ∈ w, c < 1114112) : PyData.canLay0 (tx w) = true := SeqAt.canLay_of_shaped (sh_str h)
/-- rows of pairs of texts -/
theorem sh_pairs {l : List Flt} (h : ∀ q ∈ l, (∀ c ∈ q.2.1, c < 1114112) ∧ ∀ c ∈ q.2.2, c < 1114112) : SeqAt.shaped (.list (l.map fun q => PyData.tuple [tx q.2.1, tx q.2.2])) = true := by
  unfold SeqAt.shaped
  have h1 : PyData.canLayAll0 (l.map fun q => PyData.tuple [tx q.2.1, tx q.2.2]) = true := by
    induction l with
    | nil => rfl
    | cons q l ih =>
      rw [List.map_cons]
      have hq := h q List.mem_cons_self
      simp only [PyData.canLayAll0, PyData.canLay0]
      rw [ih fun z hz => h z (List.mem_cons_of_mem _ hz)]
      have a := can_str hq.1
      have b := can_str hq.2
      simp only [PyData.canLay0] at a b
      rw [a, b]
      rfl
  have h2 : PyData.depth (.list (l.map fun q => PyData.tuple [tx q.2.1, tx q.2.2])) ≤ 64 := by
    have : ∀ l : List Flt, PyData.depthAll (l.map fun q => PyData.tuple [tx q.2.1, tx q.2.2]) ≤ 3 := fun l => by
      induction l with
      | nil => simp [PyData.depthAll]
      | cons x l ih => rw [List.map_cons]; simp only [PyData.depthAll, PyData.depth]; omega
    have := this l
    simp only [PyData.depth]
    omega
  rw [Bool.and_eq_true]
  exact ⟨by simpa [PyData.canLay0] using h1, decide_eq_true h2⟩
theorem word_find {o : Own} : (o.fs.filter fun q => decide (q.1 = o.done + 1)).head? = o.fs.find? fun q => decide (q.1 = o.done + 1) := List.head?_filter ..
end W9
namespace W9
theorem own_lt {o : Own} : (pyK o.d).length < 1000000 := by rw [own_len]; decide
end W9
namespace W9
open PySem PySem.Spec PyProof.Rows L2
theorem mset_2 {m : MS} {p q : Addr} {u v w : OV} (ne : q ≠ p) (hp : p ∉ ad m) : mset ((q, w) :: (p, u) :: m) p v = (q, w) :: (p, v) :: m := by
  show (if q = p then (p, v) else (q, w)) :: mset ((p, u) :: m) p v = _
  rw [if_neg ne, mset_hd hp]
theorem mrg_wr {l : List (Int × List Nat)} (h : (l.map (·.1)).Nodup) : mrgK [] (pyK (wrK l)) = pyK (wrK l) := mrgK_nil (by rw [pyK_keys, wrK_keys]; exact inl_nd h)
theorem wrK_len {l : List (Int × List Nat)} : (wrK l).length = l.length := List.length_map ..
end W9
namespace W9
open PySem PySem.Spec PyProof.Rows L2
theorem mset_hd2 {m : MS} {p q : Addr} {u v w : OV} (ne : q ≠ p) (hq : q ∉ ad m) : mset ((q, w) :: (p, u) :: m) q v = (q, v) :: (p, u) :: m := mset_hd (m := (p, u) :: m) fun z => by
  rcases List.mem_cons.mp z with z | z
  · exact ne z
  · exact hq z
end W9
namespace W9
open PySem PySem.Spec PyProof.Rows L2
section
variable {X : Cx} {ds : DE} {m : MS} {a b o : Expr}
theorem ee_listRg2 {lo n : Int} {p q : Pos} (h : EE X a ds (I lo)) (h2 : EE X b ds (I n)) (hn : 0 ≤ lo ∧ lo ≤ n ∧ n ≤ 1000000) (hm : X.mg "list" = none) (hm2 : X.mg "range" = none) (hg : Gl X "list" := by rfl) (hg2 : Gl X "range" := by rfl) (hc : X.calm = true := by rfl)
    (na : starEach [a, b] X.env = (false, eval a X.env) :: starEach [b] X.env := by rfl) (nb : starEach [b] X.env = (false, eval b X.env) :: starEach [] X.env := by rfl) (na2 : starEach [.Call (.Name "range" q) [a, b] [] p] X.env = (false, eval (.Call (.Name "range" q) [a, b] [] p) X.env) :: starEach [] X.env := by rfl) (hpl : (backTo p (starEach [b] X.env)).any (·.1) = false := by rfl) {p2 p3 : Pos} :
    EE X (.Call (.Name "list" p2) [.Call (.Name "range" q) [a, b] [] p] [] p3) ds (Ls (((List.range (n - lo).toNat).map fun (k : Nat) => lo + (k : Int)).map .int)) := fun m σ G H E w Q k => oE (pe_listRg hc hg hm (prg_2 hg2 hm2 (pE a) (pE b) na nb hpl) na2) (h m σ G H E w _ fun v d m1 G1 H1 g1 r1 ⟨e1, e2⟩ => by
  subst e1 e2
  cases ds_int r1
  refine h2 _ σ G1 H1 (E.mono g1.g) g1.wd _ fun v d m2 G2 H2 g2 r2 ⟨e1, e2⟩ => ?_
  subst e1 e2
  cases ds_int r2
  refine ⟨lo, n, rfl, rfl, .of_le (by omega) (by omega) (by omega) (by omega), fun p hp => ?_⟩
  have g3 := Gr.new (o := .lst (rgV lo n)) g2.wd hp
  have e : rgV lo n = ((List.range (n - lo).toNat).map fun (k : Nat) => lo + (k : Int)).map V.int := by
    unfold rgV
    rw [List.map_map]
    rfl
  rw [e] at g3 ⊢
  exact k _ _ _ _ _ ((g1.trans g2).trans g3) (.py (.lst (SqL.of upd_same) (dpa_of_ints _))) ⟨rfl, rfl⟩)
end
theorem wr_get {l : List (Int × List Nat)} {i : Int} : ((getK (pyK (wrK l)) (.inl i)).getD (S [])) = S (wrGet l i) := by
  rw [getK_py]
  unfold wrGet
  induction l with
  | nil => rfl
  | cons q l ih =>
    by_cases h : q.1 = i
    · subst h
      have e : getK (wrK (q :: l)) (.inl q.1) = some (tx q.2) := getK_pos
      rw [e, List.find?_cons_of_pos (p := fun z : Int × List Nat => decide (z.1 = q.1)) (decide_eq_true rfl)]
      rfl
    · have e : getK (wrK (q :: l)) (.inl i) = getK (wrK l) (.inl i) := getK_neg fun z => h (Sum.inl.inj z)
      rw [e, List.find?_cons_of_neg (p := fun z : Int × List Nat => decide (z.1 = i)) (by simpa using h)]
      exact ih
end W9
namespace W9
open PySem PySem.Spec PyProof.Rows L2 LamX
/-- the code object of the def x, its table, the name of what it makes -/
def tabP (K : PySem.W.Frag) (x q : Str) : Addr × Addr × Str := match PySem.W.tabIn K x with
  | some (c, P) => (c, P, q)
  | none => (0, 0, q)
theorem tabP_of {K : PySem.W.Frag} {x q : Str} {c P : Addr} (h : PySem.W.tabIn K x = some (c, P)) : tabP K x q = (c, P, q) := by unfold tabP; rw [h]
theorem tabIn_of {K : PySem.W.Frag} {x : Str} {f c P : Addr} {oc : Value} {od od2 : Option Addr} {fd : FuncData} {sl sl2 : Array (Option Value)} {vs : Array Value} (a : PySem.W.nsIn K mainGlobals x = some (some (.ref f))) (l : K.lookup f = some ⟨oc, od, .func fd, sl⟩)
    (e : fd.code = .ref c) (b : K.lookup c = some ⟨.type "code", od2, .fields vs, sl2⟩) (p : vs[11]? = some (.ref P)) : PySem.W.tabIn K x = some (c, P) := by
  unfold PySem.W.tabIn
  rw [a]
  show (match K.lookup f with | some ⟨_, _, .func fd, _⟩ => _ | _ => none) = _
  rw [l]
  show (match fd.code with | .ref c => _ | _ => none) = _
  rw [e]
  show (match K.lookup c with | some ⟨_, _, .fields vs, _⟩ => _ | _ => none) = _
  rw [b]
  show (match (vs[11]? : Option Value) with | some (.ref P) => some (c, P) | _ => none) = _
  rw [p]
/-! ### the top, what the head says of tables at hand -/
theorem walk_topY {l : PySem.W.OpenLaw} {n k : Nat} {q : Program} {loose : List Str} {XP : (Str → Option Value) → Heap → Prop} {YP : World → Heap → Prop} {d : DefRec} {K : Params → PySem.W.Frag} {F : World → FT} {x : Str} {cs : PySem.W.Frag → TabL}
    (hn : l.most = some n) (hn2 : n ≤ sizeLine) (hdf : d.params.defaults = []) (hr : Room k callerA)
    (hY : ∀ (w : World) (h : Heap), YP w h → (K w.params).In h)
    (fn : ∀ (w : World) (mg mb : Str → Option Value) (mean : ExcName → Option Value) (fa : Addr) (h : Heap), YP w h → Top q (PySem.W.looseW q loose) mean mg mb h → (K w.params).In h → mg d.name = some (.ref fa) →
      (∀ p ∈ cs (K w.params), PySem.W.CodeHd h p.1 p.2.1 ∧ h.get? p.2.1 = some (tObj #[])) ∧ (∀ p ∈ cs (K w.params), (K w.params).lookup p.2.1 = none) ∧ (tAd (cs (K w.params))).Nodup ∧
      ∃ fd : FuncData, (∀ (s : Shared) (u : Value), BindsTo s fd ⟨[u], []⟩ [(x, u)]) ∧
        ∀ base : Heap, (K w.params).In base → base.Ns mainGlobals mg → (∀ p ∈ cs (K w.params), TabB base mg p.1 p.2.1) → FnG l.prog w (K w.params) mg base CX0 k fa fd [x] (SpD (K w.params) (F w)))
    (due : ∀ (w : World) (ns : List Int), ns.length ≤ n → (∀ z ∈ ns, Builtin.Int.intBits z ≤ 1048576) → F w [Ls (ns.map .int)] (tMS (cs (K w.params))) fun d _ => d = B true) :
    PySem.W.WalkO q loose XP YP l.row.toRowW d [] (fun f vs => PySem.call f vs) := by
  refine Att.attach_callB hn hdf fun w s₀ s mg mb fa o pm cd doc a vs ns G Y ho hd hcd hmg obj hin hlen bits ge => ?_
  obtain ⟨tabs, tK, tnd, fd, hb, hF⟩ := fn w mg mb _ fa _ Y G.T (hY w _ Y) hmg
  exact top_callT (hY w _ Y) G.T.g G.T.b G.T.builtins G.T.nolimit ge tabs tK tnd G.T.bmain obj hin (Nat.le_trans hlen hn2) ⟨hr, rfl⟩ hF hb (due w ns hlen bits)
end W9
namespace W9
namespace K15
open PySem PySem.Spec PyProof.Rows L2
local macro_rules | `(tactic| walk_at "sz") => `(tactic| first | assumption | omega | decide | (simp only [List.length_append, List.length_map, List.length_zipIdx, List.length_cons, List.length_nil, List.length_replicate, List.length_range, List.length_zip, List.length_take, List.length_drop]; omega) | (simp; omega) | (simp; done))
local macro_rules | `(tactic| walk_at "bd") => `(tactic| first | exact bd_add | exact bd_sub | exact bd_mul (by omega) | exact bd_mod (by omega) | exact bd_mod (by decide +kernel) | exact bd_pow (by omega) | exact bd_powX (by decide +kernel) | exact bd_div (by omega) | exact bd_addS (by walk_at "sz") | exact bd_mulS (by walk_at "sz") | exact bd_catL (by walk_at "sz"))
local macro_rules | `(tactic| walk_at "cd") => `(tactic| first | exact cd_lt | exact cd_le | exact cd_gt | exact cd_ge | exact cd_eq | exact cd_ne | exact cd_isN | exact cd_notN | exact cd_eqS | exact cd_neS | exact cd_ltS | exact cd_inS | exact cd_notinS | exact cd_inTs (Rm.mono (by assumption) (by decide)) (by assumption) (by assumption) | exact cd_notinTs | exact cd_eqT | exact cd_neT | exact cd_notinI (Rm.mono (by assumption) (by decide)))
local macro_rules | `(tactic| walk_at "ca") => `(tactic| first | exact ca_isiD (by simp) | exact ca_lenS (by walk_at "sz") | exact ca_lenL | exact ca_lenT | exact ca_allm rfl | exact ca_int | exact ca_intB | exact ca_abs | exact ca_max2 rfl | exact ca_min2 rfl | exact ca_sum rfl | exact ca_tupL | exact ca_listL | exact ca_listT | exact ca_maxS rfl | exact ca_listS rfl (by walk_at "sz"))
local macro_rules | `(tactic| walk_at "sl") => `(tactic| first | exact sl_S (by walk_at "sz") | exact sl_L | exact sl_T)
local macro_rules | `(tactic| walk_at "rg") => `(tactic| omega)
local macro_rules | `(tactic| walk_at "asc") => `(tactic| first | assumption | exact HexL.asc (by assumption))
local macro_rules | `(tactic| walk_at "sd") => `(tactic| first | exact sd_tup (by rfl) | exact sd_lst (by rfl) | exact sd_tup (at_nn (by decide) (by rfl)) | exact sd_lst (at_nn (by decide) (by rfl)))
def wholeB : PyData → Bool
  | .int _ => true
  | _ => false
def tupB (lo hi : Int) : PyData → Bool
  | .tuple l => decide (lo ≤ (l.length : Int)) && decide ((l.length : Int) ≤ hi)
  | _ => false
def strIn (ws : List (List Nat)) : PyData → Bool
  | .str x => decide (x.cps.toList ∈ ws)
  | _ => false
inductive R_is_whole : List SD → SD → Prop
  | mk {d : PyData} : R_is_whole [.py d] (B (wholeB d))
inductive R_is_integer : List SD → SD → Prop
  | mk {d : PyData} {lo hi : Int} : R_is_integer [.py d, I lo, I hi] (B (intB lo hi d))
  | mkN {d h : PyData} {lo : Int} (hn : wholeB d = false) : R_is_integer [.py d, I lo, .py h] (B false)
inductive R_is_tuple : List SD → SD → Prop
  | mk {d : PyData} {lo hi : Int} : R_is_tuple [.py d, I lo, I hi] (B (tupB lo hi d))
inductive R_is_string : List SD → SD → Prop
  | mk {d : PyData} {ws : List (List Nat)} (hd : gdB d = true) (hw : Plain ws) : R_is_string [.py d, Tp (txts ws)] (B (strIn ws d))
inductive R_are_cells : List SD → SD → Prop
  | mk {d : PyData} {lo hi : Int} (hd : gdB d = true) : R_are_cells [.py d, I lo, I hi] (B (cellsB lo hi d))
inductive R_is_page : List SD → SD → Prop
  | mk {d : PyData} (hd : gdB d = true) : R_is_page [.py d] (B (cellsB 256 256 d))
inductive R_is_fault : List SD → SD → Prop
  | mk {d : PyData} (hd : gdB d = true) : R_is_fault [.py d] (B (faultB d))
inductive R_are_faults : List SD → SD → Prop
  | mk {d : PyData} (hd : gdB d = true) : R_are_faults [.py d] (B (faultsB d))
inductive R_torn : List SD → SD → Prop
  | mk {cs ps : List Nat} (hc : HexL cs) (hp : HexL ps) (h0 : ps ≠ []) (hz : cs.length ≤ 1000 ∧ ps.length ≤ 1000) : R_torn [S cs, S ps] (S (tornL cs ps))
local macro_rules | `(tactic| walk_at "call is_whole") => `(tactic| exact .mk)
local macro_rules | `(tactic| walk_at "call is_integer") => `(tactic| exact .mk)
local macro_rules | `(tactic| walk_at "call is_tuple") => `(tactic| exact .mk)
local macro_rules | `(tactic| walk_at "call are_cells") => `(tactic| exact .mk (by assumption))
section
variable {P : Program} {w : World} {K : PySem.W.Frag} {mg : Str → Option Value} {base : Heap}
theorem ok_is_whole (T : Tx P K mg) : FnG P w K mg base CX0 3 T.a_is_whole T.d_is_whole ["value"] (SpD K (pureF R_is_whole)) := by
  refine fnD_okA (W9.Fun.toA T.F_is_whole) sc_is_whole (fun xs m Pp ⟨d, h, _⟩ => by cases h <;> rfl) (fun cdv A outer s H E hcd rm xs m Pp ⟨d, hR, hp⟩ => ?_)
  cases hR with | @mk d =>
  exact wss_one (ws_retE (EE.is (ee_and (ee_callB (ea_cons (ee_var (i := 0) rfl) (ea_cons (ee_blt (v := .ty "int") T.m_int bo_int rfl) ea_nil)) (fun m => by walk_at "ca") T.m_isinstance bo_isinstance) (fun hk => (ee_one (ee_not (ee_callB (ea_cons (ee_var (i := 0) rfl) (ea_cons (ee_blt (v := .ty "bool") T.m_bool bo_bool rfl) ea_nil)) (fun m => by walk_at "ca") T.m_isinstance bo_isinstance))))) (by cases d <;> rfl)) hp)
theorem ok_is_integer (T : Tx P K mg) : FnG P w K mg base CX0 6 T.a_is_integer T.d_is_integer ["value", "low", "high"] (SpD K (pureF R_is_integer)) := by
  refine fnD_okA (W9.Fun.toA T.F_is_integer) sc_is_integer (fun xs m Pp ⟨d, h, _⟩ => by cases h <;> rfl) (fun cdv A outer s H E hcd rm xs m Pp ⟨d, hR, hp⟩ => ?_)
  cases hR with
  | @mk d lo hi =>
    cases d with
    | int i => exact wss_one (ws_retE (EE.is (ee_and (eg_call (ok_is_whole T) (rm.mono (by decide)) T.m_is_whole T.F_is_whole.kp T.b_is_whole (ea_cons (ee_var (i := 0) rfl) ea_nil) (by walk_at "call is_whole")) (fun hk => (ee_one (we_chain (ee_var (i := 1) rfl) (ee_var (i := 0) rfl) (ee_var (i := 2) rfl) (by walk_at "cd") (by walk_at "cd") rfl).1))) (by rfl)) hp)
    | _ => exact wss_one (ws_retE (EE.is (ee_and (k := false) (l := false) (EE.is (eg_call (ok_is_whole T) (rm.mono (by decide)) T.m_is_whole T.F_is_whole.kp T.b_is_whole (ea_cons (ee_var (i := 0) rfl) ea_nil) (by walk_at "call is_whole")) rfl) (fun hk => by cases hk)) (by rfl)) hp)
  | @mkN d h lo hn => exact wss_one (ws_retE (EE.is (ee_and (l := false) (eg_call (ok_is_whole T) (rm.mono (by decide)) T.m_is_whole T.F_is_whole.kp T.b_is_whole (ea_cons (ee_var (i := 0) rfl) ea_nil) (by walk_at "call is_whole")) (fun hk => by rw [hn] at hk; cases hk)) (by rw [hn]; rfl)) hp)
theorem ok_is_tuple (T : Tx P K mg) : FnG P w K mg base CX0 3 T.a_is_tuple T.d_is_tuple ["value", "low", "high"] (SpD K (pureF R_is_tuple)) := by
  refine fnD_okA (W9.Fun.toA T.F_is_tuple) sc_is_tuple (fun xs m Pp ⟨d, h, _⟩ => by cases h <;> rfl) (fun cdv A outer s H E hcd rm xs m Pp ⟨d, hR, hp⟩ => ?_)
  cases hR with | @mk d lo hi =>
  cases d with
  | tuple l => exact wss_one (ws_retE (EE.is (ee_and (ee_callB (ea_cons (ee_var (i := 0) rfl) (ea_cons (ee_blt (v := .ty "tuple") T.m_tuple bo_tuple rfl) ea_nil)) (fun m => by walk_at "ca") T.m_isinstance bo_isinstance) (fun hk => (ee_one (we_chain (ee_var (i := 1) rfl) (ee_callB (ea_cons (ee_var (i := 0) rfl) ea_nil) (fun m => by walk_at "ca") T.m_len bo_len) (ee_var (i := 2) rfl) (by walk_at "cd") (by walk_at "cd") rfl).1))) (by rfl)) hp)
  | _ => exact wss_one (ws_retE (EE.is (ee_and (l := false) (ee_callB (ea_cons (ee_var (i := 0) rfl) (ea_cons (ee_blt (v := .ty "tuple") T.m_tuple bo_tuple rfl) ea_nil)) (fun m => by walk_at "ca") T.m_isinstance bo_isinstance) (fun hk => by cases hk)) (by rfl)) hp)
theorem ok_is_string (T : Tx P K mg) : FnG P w K mg base CX0 3 T.a_is_string T.d_is_string ["value", "some"] (SpD K (pureF R_is_string)) := by
  refine fnD_okA (W9.Fun.toA T.F_is_string) sc_is_string (fun xs m Pp ⟨d, h, _⟩ => by cases h <;> rfl) (fun cdv A outer s H E hcd rm xs m Pp ⟨d, hR, hp⟩ => ?_)
  cases hR with | @mk d ws hd hw =>
  cases d with
  | str x =>
    have hg := (gd_str hd).2
    rw [str_eta x] at hp ⊢
    generalize x.cps.toList = l at hg hp ⊢
    exact wss_one (ws_retE (EE.is (ee_and (ee_callB (ea_cons (ee_var (i := 0) rfl) (ea_cons (ee_blt (v := .ty "str") T.m_str bo_str rfl) ea_nil)) (fun m => by walk_at "ca") T.m_isinstance bo_isinstance) fun hk => ee_one (ee_cmp (ee_var (i := 0) rfl) (ee_var (i := 1) rfl) (cd_inTs (rm.mono (by decide)) hg hw))) (by simp [strIn, isTy, tyN])) hp)
  | _ => exact wss_one (ws_retE (EE.is (ee_and (l := false) (ee_callB (ea_cons (ee_var (i := 0) rfl) (ea_cons (ee_blt (v := .ty "str") T.m_str bo_str rfl) ea_nil)) (fun m => by walk_at "ca") T.m_isinstance bo_isinstance) (fun hk => by cases hk)) (by rfl)) hp)
theorem ok_are_cells (T : Tx P K mg) : FnG P w K mg base CX0 3 T.a_are_cells T.d_are_cells ["value", "low", "high"] (SpD K (pureF R_are_cells)) := by
  refine fnD_okA (W9.Fun.toA T.F_are_cells) sc_are_cells (fun xs m Pp ⟨d, h, _⟩ => by cases h <;> rfl) (fun cdv A outer s H E hcd rm xs m Pp ⟨d, hR, hp⟩ => ?_)
  cases hR with | @mk d lo hi hd =>
  cases d with
  | str x =>
    have hg := (gd_str hd).1
    rw [str_eta x] at hp ⊢
    rw [← Array.length_toList] at hg
    generalize x.cps.toList = l at hg hp ⊢
    rw [cellsB_S] at hp
    exact wss_one (ws_retE (EE.is (ee_and (ee_callB (ea_cons (ee_var (i := 0) rfl) (ea_cons (ee_blt (v := .ty "str") T.m_str bo_str rfl) ea_nil)) (fun m => by walk_at "ca") T.m_isinstance bo_isinstance) fun hk => ee_and (we_chain (ee_var (i := 1) rfl) (ee_callB (ea_cons (ee_var (i := 0) rfl) ea_nil) (fun m => by walk_at "ca") T.m_len bo_len) (ee_var (i := 2) rfl) (by walk_at "cd") (by walk_at "cd") rfl).1 fun hk => ee_one (ee_callB (ea_cons (ee_lcm (l) (fun c => S [c]) (fun c => .bool (decide (c ∈ hexS))) [("cell", 3)] rfl sc_are_cells.nd (ei_str (ee_var (i := 0) rfl)) (by walk_at "sz") (fun a ha s H Ce cl fp => (ee_cmp (ee_var (i := 3) rfl) (ee_gstr T.c_CELLS) (by walk_at "cd"))) (fun _ _ _ _ _ _ _ _ _ p => wg_name p sc_are_cells.nd) (blkOk_by (by rfl))) ea_nil) (fun m => ca_allm rfl) T.m_all bo_all)) (by simp [isTy, tyN])) hp)
  | _ => exact wss_one (ws_retE (EE.is (ee_and (l := false) (ee_callB (ea_cons (ee_var (i := 0) rfl) (ea_cons (ee_blt (v := .ty "str") T.m_str bo_str rfl) ea_nil)) (fun m => by walk_at "ca") T.m_isinstance bo_isinstance) (fun hk => by cases hk)) (by rfl)) hp)
theorem ok_is_page (T : Tx P K mg) : FnG P w K mg base CX0 6 T.a_is_page T.d_is_page ["value"] (SpD K (pureF R_is_page)) := by
  refine fnD_okA (W9.Fun.toA T.F_is_page) sc_is_page (fun xs m Pp ⟨d, h, _⟩ => by cases h <;> rfl) (fun cdv A outer s H E hcd rm xs m Pp ⟨d, hR, hp⟩ => ?_)
  cases hR with | @mk d hd =>
  exact wss_one (ws_retE (eg_call (ok_are_cells T) (rm.mono (by decide)) T.m_are_cells T.F_are_cells.kp T.b_are_cells (ea_cons (ee_var (i := 0) rfl) (ea_cons (ee_gint T.c_CELLS_A_PAGE) (ea_cons (ee_gint T.c_CELLS_A_PAGE) ea_nil))) (by walk_at "call are_cells")) hp)
theorem ok_torn (T : Tx P K mg) : FnG P w K mg base CX0 3 T.a_torn T.d_torn ["cells", "pattern"] (SpD K (pureF R_torn)) := by
  refine fnD_okA (W9.Fun.toA T.F_torn) sc_torn (fun xs m Pp ⟨d, h, _⟩ => by cases h <;> rfl) (fun cdv A outer s H E hcd rm xs m Pp ⟨d, hR, hp⟩ => ?_)
  cases hR with | @mk cs ps hc hp2 h0 hz =>
  obtain ⟨z1, z2⟩ := hz
  have hl : 0 < ps.length := List.length_pos_iff.mpr h0
  refine wss_cons (ws_setE (i := 2) sc_torn.nd (ee_callB (ea_cons (ee_var (i := 1) rfl) ea_nil) (fun m => by walk_at "ca") T.m_len bo_len) ?_)
  refine wss_one (ws_retE (EE.is (ee_meth PySem.F.plainAttrs_str PySem.F.slot_str_join PySem.F.type_str_join (ee_strS (l := [])) (ea_cons (ee_lct (cs.zipIdx) (fun q => .int (q.2 : Nat)) (fun q => .str ⟨[q.1].toArray⟩) (fun q => .str ⟨[mx q.1 (ps.getD (q.2 % ps.length) 0)].toArray⟩) [("at", 3), ("cell", 4)] rfl sc_torn.nd (ei_enumS (ee_var (i := 0) rfl) (by walk_at "asc") T.m_enumerate) (by walk_at "sz") (fun a ha s H Ce cl fp => ?_) (fun _ _ _ _ _ _ _ _ _ _ p => wg_tup (wgs_cons (wg_name (wgs_cons (wg_name (wgs_nil p) sc_torn.nd)) sc_torn.nd))) (blkOk_by (by rfl))) ea_nil) (fun m => md_joinM (l := cs.zipIdx) (f := fun (q : Nat × Nat) => mx q.1 (ps.getD (q.2 % ps.length) 0)) (by rw [List.length_zipIdx]; omega))) (by rfl)) hp)
  obtain ⟨c, i⟩ := a
  have hps : ps[i % ps.length]? = some (ps.getD (i % ps.length) 0) := by
    rw [List.getD_eq_getElem?_getD, List.getElem?_eq_getElem (Nat.mod_lt _ hl)]; rfl
  refine EE.is (ee_callB (ea_cons (ee_var (i := 4) rfl) (ea_cons (ee_sub (ee_var (i := 1) rfl) (ee_bin (ee_var (i := 3) rfl) (ee_var (i := 2) rfl) (by walk_at "bd")) (fun m => sd_str (at_nn (Int.emod_nonneg _ (by omega)) (by rw [← Int.natCast_emod, Int.toNat_natCast]; exact hps)) (by omega))) ea_nil)) (fun m => ca_maxS rfl) T.m_max bo_max) (mx_one c _)
end
end K15
end W9
namespace W9
namespace K15
open PySem PySem.Spec PyProof.Rows L2
local macro_rules | `(tactic| walk_at "sz") => `(tactic| first | assumption | omega | decide | (simp only [List.length_append, List.length_map, List.length_zipIdx, List.length_cons, List.length_nil, List.length_replicate, List.length_range, List.length_zip, List.length_take, List.length_drop]; omega) | (simp; omega) | (simp; done))
local macro_rules | `(tactic| walk_at "bd") => `(tactic| first | exact bd_add | exact bd_sub | exact bd_mul (by omega) | exact bd_mod (by omega) | exact bd_mod (by decide +kernel) | exact bd_pow (by omega) | exact bd_powX (by decide +kernel) | exact bd_div (by omega) | exact bd_addS (by walk_at "sz") | exact bd_mulS (by walk_at "sz") | exact bd_catL (by walk_at "sz"))
local macro_rules | `(tactic| walk_at "cd") => `(tactic| first | exact cd_lt | exact cd_le | exact cd_gt | exact cd_ge | exact cd_eq | exact cd_ne | exact cd_isN | exact cd_notN | exact cd_eqS | exact cd_neS | exact cd_ltS | exact cd_inS | exact cd_notinS | exact cd_inTs (Rm.mono (by assumption) (by decide)) (by assumption) (by assumption) | exact cd_notinTs | exact cd_eqT | exact cd_neT | exact cd_notinI (Rm.mono (by assumption) (by decide)))
local macro_rules | `(tactic| walk_at "ca") => `(tactic| first | exact ca_isiD (by simp) | exact ca_lenS (by walk_at "sz") | exact ca_lenL | exact ca_lenT | exact ca_allm rfl | exact ca_int | exact ca_intB | exact ca_abs | exact ca_max2 rfl | exact ca_min2 rfl | exact ca_sum rfl | exact ca_tupL | exact ca_listL | exact ca_listT | exact ca_maxS rfl | exact ca_listS rfl (by walk_at "sz"))
local macro_rules | `(tactic| walk_at "sl") => `(tactic| first | exact sl_S (by walk_at "sz") | exact sl_L | exact sl_T)
local macro_rules | `(tactic| walk_at "rg") => `(tactic| omega)
local macro_rules | `(tactic| walk_at "asc") => `(tactic| first | assumption | exact HexL.asc (by assumption))
local macro_rules | `(tactic| walk_at "sd") => `(tactic| first | exact sd_tup (by rfl) | exact sd_lst (by rfl) | exact sd_tup (at_nn (by decide) (by rfl)) | exact sd_lst (at_nn (by decide) (by rfl)))
inductive R__law_is_int : List SD → SD → Prop
  | mk {d : PyData} {lo hi : Int} : R__law_is_int [.py d, I lo, I hi] (B (intB lo hi d))
inductive R__law_chip_is_cells : List SD → SD → Prop
  | mk {d : PyData} {lo hi : Int} (hd : gdB d = true) : R__law_chip_is_cells [.py d, I lo, I hi] (B (cellsB lo hi d))
inductive R__law_chip_are_faults : List SD → SD → Prop
  | mk {d : PyData} (hd : gdB d = true) : R__law_chip_are_faults [.py d] (B (faultsB d))
local macro_rules | `(tactic| walk_at "call is_tuple") => `(tactic| exact .mk)
theorem isint_one {a : PyData} : R_is_integer [.py a, I 1, .py a] (B (oneB a)) := by
  cases a with
  | int i =>
    have z : R_is_integer [.py (.int i), I 1, I i] (B (intB 1 i (.int i))) := .mk
    have e : intB 1 i (.int i) = oneB (.int i) := by simp [intB, oneB]
    rw [e] at z
    exact z
  | _ => exact .mkN rfl
local macro_rules | `(tactic| walk_at "call is_fault") => `(tactic| exact .mk ((gd_tup (by assumption)).2 _ (by assumption)))
section
variable {P : Program} {w : World} {K : PySem.W.Frag} {mg : Str → Option Value} {base : Heap}
theorem ok_is_fault (T : Tx P K mg) : FnG P w K mg base CX0 9 T.a_is_fault T.d_is_fault ["value"] (SpD K (pureF R_is_fault)) := by
  refine fnD_okA (W9.Fun.toA T.F_is_fault) sc_is_fault (fun xs m Pp ⟨d, h, _⟩ => by cases h <;> rfl) (fun cdv A outer s H E hcd rm xs m Pp ⟨d, hR, hp⟩ => ?_)
  cases hR with | @mk d hd =>
  have out : ∀ {h : tupB 3 3 d = false}, faultB d = false := fun {h} => by
    cases d with
    | tuple l =>
      match l, h with
      | [a, b, c], h => cases h
      | [], h => rfl
      | [_], h => rfl
      | [_, _], h => rfl
      | _ :: _ :: _ :: _ :: _, h => rfl
    | _ => rfl
  cases ht : tupB 3 3 d with
  | false =>
    rw [out (h := ht)] at hp
    exact wss_cons (ws_ife (k := true) (et_w (ew_orT (ET.is (et_not (et_val (eg_call (ok_is_tuple T) (rm.mono (by decide)) T.m_is_tuple T.F_is_tuple.kp T.b_is_tuple (ea_cons (ee_var (i := 0) rfl) (ea_cons (ee_gint T.c_TRIPLE) (ea_cons (ee_gint T.c_TRIPLE) ea_nil))) (by walk_at "call is_tuple")))) (by rw [ht]; rfl)))) (fun _ => wss_one (ws_retE ee_bl hp)) fun z => by cases z)
  | true =>
    obtain ⟨a, b, c, rfl⟩ : ∃ a b c, d = .tuple [a, b, c] := by
      cases d with
      | tuple l =>
        match l, ht with
        | [a, b, c], _ => exact ⟨a, b, c, rfl⟩
        | [], h => cases h
        | [_], h => cases h
        | [_, _], h => cases h
        | _ :: _ :: _ :: _ :: l, h => simp [tupB] at h; omega
      | _ => cases ht
    have ga := (gd_tup hd).2
    have g1 := ga b (by simp)
    have g2 := ga c (by simp)
    have hw := plain_w
    have hp : Pp (B (oneB a && (wordB b && cellsB 1 256 c))) m := hp
    refine wss_cons (ws_ife (k := !oneB a) (ET.is (et_w (ew_or (et_not (et_val (eg_call (ok_is_tuple T) (rm.mono (by decide)) T.m_is_tuple T.F_is_tuple.kp T.b_is_tuple (ea_cons (ee_var (i := 0) rfl) (ea_cons (ee_gint T.c_TRIPLE) (ea_cons (ee_gint T.c_TRIPLE) ea_nil))) (by walk_at "call is_tuple")))) fun _ => ew_or1 (et_not (et_val (eg_call (ok_is_integer T) (rm.mono (by decide)) T.m_is_integer T.F_is_integer.kp T.b_is_integer (ea_cons (ee_sub (ee_var (i := 0) rfl) ee_int (fun m => by walk_at "sd")) (ea_cons ee_int (ea_cons (ee_sub (ee_var (i := 0) rfl) ee_int (fun m => by walk_at "sd")) ea_nil))) (isint_one)))))) (by rw [ht]; rfl)) (fun hk => ?_) (fun hk => ?_))
    · rw [show oneB a = false by simpa using hk] at hp
      exact wss_one (ws_retE ee_bl hp)
    · rw [show oneB a = true by simpa using hk] at hp
      refine wss_nil (wss_one (ws_retE (EE.is (ee_and (EE.is (eg_call (ok_is_string T) (rm.mono (by decide)) T.m_is_string T.F_is_string.kp T.b_is_string (ea_cons (ee_sub (ee_var (i := 0) rfl) ee_int (fun m => by walk_at "sd")) (ea_cons (ee_tup (eap_cons (ee_gstr T.c_CUT) (eap_cons (ee_gstr T.c_BAD) eap_nil))) ea_nil)) (.mk (ws := [cutL, badL]) g1 hw)) (d' := B (wordB b)) ?_) fun _ => ee_one (eg_call (ok_are_cells T) (rm.mono (by decide)) T.m_are_cells T.F_are_cells.kp T.b_are_cells (ea_cons (ee_sub (ee_var (i := 0) rfl) (ee_neg ee_int) (fun m => by walk_at "sd")) (ea_cons ee_int (ea_cons (ee_gint T.c_CELLS_A_PAGE) ea_nil))) (.mk g2))) (by rfl)) hp))
      cases b <;> rfl
theorem ok_are_faults (T : Tx P K mg) : FnG P w K mg base CX0 12 T.a_are_faults T.d_are_faults ["value"] (SpD K (pureF R_are_faults)) := by
  refine fnD_okA (W9.Fun.toA T.F_are_faults) sc_are_faults (fun xs m Pp ⟨d, h, _⟩ => by cases h <;> rfl) (fun cdv A outer s H E hcd rm xs m Pp ⟨d, hR, hp⟩ => ?_)
  cases hR with | @mk d hd =>
  cases d with
  | tuple l =>
    have gl := gd_tup hd
    have hlen := gl.1
    have hp : Pp (B (l.all faultB && ascI (l.map ftI))) m := hp
    refine wss_cons (ws_ife (k := !l.all faultB) (ET.is (et_w (ew_or (et_not (et_val (ee_callB (ea_cons (ee_var (i := 0) rfl) (ea_cons (ee_blt (v := .ty "tuple") T.m_tuple bo_tuple rfl) ea_nil)) (fun m => by walk_at "ca") T.m_isinstance bo_isinstance))) fun _ => ew_or1 (et_not (et_val (ee_callB (ea_cons (ee_lcm (l) (fun d => .py d) (fun d => .bool (faultB d)) [("fault", 1)] rfl sc_are_faults.nd (ei_tup (ee_var (i := 0) rfl)) (by walk_at "sz") (fun a ha s H Ce cl fp => (eg_call (ok_is_fault T) (rm.mono (by decide)) T.m_is_fault T.F_is_fault.kp T.b_is_fault (ea_cons (ee_var (i := 1) rfl) ea_nil) (by walk_at "call is_fault"))) (fun _ _ _ _ _ _ _ _ _ p => wg_name p sc_are_faults.nd) (blkOk_by (by rfl))) ea_nil) (fun m => ca_allm rfl) T.m_all bo_all))))) (by rfl)) (fun hk => ?_) (fun hk => ?_))
    · rw [show l.all faultB = false by simpa using hk] at hp
      exact wss_one (ws_retE ee_bl hp)
    · have ha : l.all faultB = true := by simpa using hk
      rw [ha] at hp
      have hall := List.all_eq_true.mp ha
      refine wss_nil (wss_one (ws_retE (EE.is (ee_callB (ea_cons (ee_lct (l.zip (l.drop 1)) (fun q => q.1) (fun q => q.2) (fun q => .bool (decide (ftI q.1 < ftI q.2))) [("one", 2), ("other", 3)] rfl sc_are_faults.nd ?_ (by walk_at "sz") (fun q hq s H Ce cl fp => ?_) (fun _ _ _ _ _ _ _ _ _ _ p => wg_tup (wgs_cons (wg_name (wgs_cons (wg_name (wgs_nil p) sc_are_faults.nd)) sc_are_faults.nd))) (blkOk_by (by rfl))) ea_nil) (fun m => ca_allm rfl) T.m_all bo_all) ?_) hp))
      · exact EI.is (ei_zipT (ee_var (i := 0) rfl) (EE.is (ee_slice (ee_var (i := 0) rfl) (eo_some ee_int) eo_none (fun m => by walk_at "sl")) (by rw [show (1 : Int) = ((1 : Nat) : Int) from rfl, cut_n0])) T.m_zip) rfl
      · obtain ⟨i, w1, c1, e1, _⟩ := faultB_three (hall q.1 (List.of_mem_zip hq).1)
        obtain ⟨j, w2, c2, e2, _⟩ := faultB_three (hall q.2 (List.mem_of_mem_drop (List.of_mem_zip hq).2))
        rw [e1, e2]
        exact (ee_cmp (ee_sub (ee_var (i := 2) rfl) ee_int (fun m => by walk_at "sd")) (ee_sub (ee_var (i := 3) rfl) ee_int (fun m => by walk_at "sd")) (by walk_at "cd"))
      · rw [zip_asc]; rfl
  | _ => exact wss_cons (ws_ife (k := true) (et_w (ew_orT (ET.is (et_not (et_val (ee_callB (ea_cons (ee_var (i := 0) rfl) (ea_cons (ee_blt (v := .ty "tuple") T.m_tuple bo_tuple rfl) ea_nil)) (fun m => by walk_at "ca") T.m_isinstance bo_isinstance))) (by rfl)))) (fun _ => wss_one (ws_retE ee_bl hp)) fun z => by cases z)
theorem ok__law_is_int (T : Tx P K mg) : FnG P w K mg base CX0 3 T.a__law_is_int T.d__law_is_int ["value", "low", "high"] (SpD K (pureF R__law_is_int)) := by
  refine fnD_okA (W9.Fun.toA T.F__law_is_int) sc__law_is_int (fun xs m Pp ⟨d, h, _⟩ => by cases h <;> rfl) (fun cdv A outer s H E hcd rm xs m Pp ⟨d, hR, hp⟩ => ?_)
  cases hR with | @mk d lo hi =>
  cases d with
  | int i => exact wss_one (ws_retE (EE.is (ee_and (ee_callB (ea_cons (ee_var (i := 0) rfl) (ea_cons (ee_blt (v := .ty "int") T.m_int bo_int rfl) ea_nil)) (fun m => by walk_at "ca") T.m_isinstance bo_isinstance) (fun hk => (ee_and (ee_not (ee_callB (ea_cons (ee_var (i := 0) rfl) (ea_cons (ee_blt (v := .ty "bool") T.m_bool bo_bool rfl) ea_nil)) (fun m => by walk_at "ca") T.m_isinstance bo_isinstance)) (fun hk => (ee_one (we_chain (ee_var (i := 1) rfl) (ee_var (i := 0) rfl) (ee_var (i := 2) rfl) (by walk_at "cd") (by walk_at "cd") rfl).1))))) (by rfl)) hp)
  | bool b => exact wss_one (ws_retE (EE.is (ee_and (l := false) (ee_callB (ea_cons (ee_var (i := 0) rfl) (ea_cons (ee_blt (v := .ty "int") T.m_int bo_int rfl) ea_nil)) (fun m => by walk_at "ca") T.m_isinstance bo_isinstance) fun _ => ee_andF (EE.is (ee_not (ee_callB (ea_cons (ee_var (i := 0) rfl) (ea_cons (ee_blt (v := .ty "bool") T.m_bool bo_bool rfl) ea_nil)) (fun m => by walk_at "ca") T.m_isinstance bo_isinstance)) (by rfl))) (by rfl)) hp)
  | _ => exact wss_one (ws_retE (EE.is (ee_and (l := false) (ee_callB (ea_cons (ee_var (i := 0) rfl) (ea_cons (ee_blt (v := .ty "int") T.m_int bo_int rfl) ea_nil)) (fun m => by walk_at "ca") T.m_isinstance bo_isinstance) (fun hk => by cases hk)) (by rfl)) hp)
theorem ok__law_chip_is_cells (T : Tx P K mg) : FnG P w K mg base CX0 3 T.a__law_chip_is_cells T.d__law_chip_is_cells ["value", "low", "high"] (SpD K (pureF R__law_chip_is_cells)) := by
  refine fnD_okA (W9.Fun.toA T.F__law_chip_is_cells) sc__law_chip_is_cells (fun xs m Pp ⟨d, h, _⟩ => by cases h <;> rfl) (fun cdv A outer s H E hcd rm xs m Pp ⟨d, hR, hp⟩ => ?_)
  cases hR with | @mk d lo hi hd =>
  cases d with
  | str x =>
    have hg := (gd_str hd).1
    rw [str_eta x] at hp ⊢
    rw [← Array.length_toList] at hg
    generalize x.cps.toList = l at hg hp ⊢
    rw [cellsB_S] at hp
    refine wss_cons (ws_ife (k := !(decide (lo ≤ (l.length : Int)) && decide ((l.length : Int) ≤ hi))) (ET.is (et_w (ew_or (et_not (et_val (ee_callB (ea_cons (ee_var (i := 0) rfl) (ea_cons (ee_blt (v := .ty "str") T.m_str bo_str rfl) ea_nil)) (fun m => by walk_at "ca") T.m_isinstance bo_isinstance))) fun _ => ew_or1 (et_not (we_chain (ee_var (i := 1) rfl) (ee_callB (ea_cons (ee_var (i := 0) rfl) ea_nil) (fun m => by walk_at "ca") T.m_len bo_len) (ee_var (i := 2) rfl) (by walk_at "cd") (by walk_at "cd") rfl).2))) (by simp [isTy, tyN])) (fun hk => ?_) (fun hk => ?_))
    · rw [not_t hk] at hp
      exact wss_one (ws_retE ee_bl hp)
    · rw [not_f hk] at hp
      exact wss_nil (wss_one (ws_retE (EE.is (ee_callB (ea_cons (ee_lcm (l) (fun c => S [c]) (fun c => .bool (decide (c ∈ hexS))) [("sign", 3)] rfl sc__law_chip_is_cells.nd (ei_str (ee_var (i := 0) rfl)) (by walk_at "sz") (fun a ha s H Ce cl fp => (ee_cmp (ee_var (i := 3) rfl) (ee_strS (l := [48, 49, 50, 51, 52, 53, 54, 55, 56, 57, 97, 98, 99, 100, 101, 102])) (by walk_at "cd"))) (fun _ _ _ _ _ _ _ _ _ p => wg_name p sc__law_chip_is_cells.nd) (blkOk_by (by rfl))) ea_nil) (fun m => ca_allm rfl) T.m_all bo_all) (by rfl)) hp))
  | _ => exact wss_cons (ws_ife (k := true) (et_w (ew_orT (ET.is (et_not (et_val (ee_callB (ea_cons (ee_var (i := 0) rfl) (ea_cons (ee_blt (v := .ty "str") T.m_str bo_str rfl) ea_nil)) (fun m => by walk_at "ca") T.m_isinstance bo_isinstance))) (by rfl)))) (fun _ => wss_one (ws_retE ee_bl hp)) fun z => by cases z)
end
end K15
end W9
namespace W9
namespace K15
open PySem PySem.Spec PyProof.Rows L2
local macro_rules | `(tactic| walk_at "sz") => `(tactic| first | assumption | omega | decide | (simp only [List.length_append, List.length_map, List.length_zipIdx, List.length_cons, List.length_nil, List.length_replicate, List.length_range, List.length_zip, List.length_take, List.length_drop]; omega) | (simp; omega) | (simp; done))
local macro_rules | `(tactic| walk_at "bd") => `(tactic| first | exact bd_add | exact bd_sub | exact bd_mul (by omega) | exact bd_mod (by omega) | exact bd_mod (by decide +kernel) | exact bd_pow (by omega) | exact bd_powX (by decide +kernel) | exact bd_div (by omega) | exact bd_addS (by walk_at "sz") | exact bd_mulS (by walk_at "sz") | exact bd_catL (by walk_at "sz"))
local macro_rules | `(tactic| walk_at "cd") => `(tactic| first | exact cd_lt | exact cd_le | exact cd_gt | exact cd_ge | exact cd_eq | exact cd_ne | exact cd_isN | exact cd_notN | exact cd_eqS | exact cd_neS | exact cd_ltS | exact cd_inS | exact cd_notinS | exact cd_inTs (Rm.mono (by assumption) (by decide)) (by assumption) (by assumption) | exact cd_notinTs | exact cd_eqT | exact cd_neT | exact cd_notinI (Rm.mono (by assumption) (by decide)))
local macro_rules | `(tactic| walk_at "ca") => `(tactic| first | exact ca_isiD (by simp) | exact ca_lenS (by walk_at "sz") | exact ca_lenL | exact ca_lenT | exact ca_allm rfl | exact ca_int | exact ca_intB | exact ca_abs | exact ca_max2 rfl | exact ca_min2 rfl | exact ca_sum rfl | exact ca_tupL | exact ca_listL | exact ca_listT | exact ca_maxS rfl | exact ca_listS rfl (by walk_at "sz"))
local macro_rules | `(tactic| walk_at "sl") => `(tactic| first | exact sl_S (by walk_at "sz") | exact sl_L | exact sl_T)
local macro_rules | `(tactic| walk_at "rg") => `(tactic| omega)
local macro_rules | `(tactic| walk_at "asc") => `(tactic| first | assumption | exact HexL.asc (by assumption))
local macro_rules | `(tactic| walk_at "sd") => `(tactic| first | exact sd_tup (by rfl) | exact sd_lst (by rfl) | exact sd_tup (at_nn (by decide) (by rfl)) | exact sd_lst (at_nn (by decide) (by rfl)))
local macro_rules | `(tactic| walk_at "call is_integer") => `(tactic| exact .mk)
local macro_rules | `(tactic| walk_at "call is_page") => `(tactic| exact .mk (by assumption))
section
variable {P : Program} {w : World} {K : PySem.W.Frag} {mg : Str → Option Value} {base : Heap}
def errA (T : Tx P K mg) : Er → Addr
  | .size => T.e_BadSize
  | .faults => T.e_BadFaults
  | .place => T.e_BadPlace
  | .cells => T.e_BadCells
  | .full => T.e_NotEmpty
  | .cut => T.e_Cut
  | .block => T.e_BadBlock
  | .fade => T.e_BadFade
  | .fault => T.e_BadFault
  | .pending => T.e_Pending
/-- what comes of a call of a chip's method -/
def outC (C : Addr) (T : Tx P K mg) (A : CA) (Pp : SD → MS → Prop) (R : RF) : Out × Chp → Prop
  | (.inl (e, d), c) => R (errA T e) (.py d) (chM C A c)
  | (.inr d, c) => Pp (.py d) (chM C A c)
theorem rcv_c {X : Cx} {C : Addr} {A : CA} {c : Chp} {Q : Addr → Prop} (h : Q A.a) : Rcv X C (.raw (.ref A.a)) (chM C A c) Q := ⟨A.a, A.dx, c.sl A, rfl, List.mem_cons_self, List.mem_cons_of_mem _ List.mem_cons_self, h⟩
inductive F_Chip_check_page (T : Tx P K mg) : FTX
  | mk {A : CA} {c : Chp} {place : PyData} {Pp : SD → MS → Prop} {R : RF} (hb : WfC c) (hP : intB 0 (c.bl * c.pg - 1) place = true → Pp N0 (chM T.o_Chip A c)) (hR : intB 0 (c.bl * c.pg - 1) place = false → R T.e_BadPlace (.py place) (chM T.o_Chip A c)) :
      F_Chip_check_page T [.raw (.ref A.a), .py place] (chM T.o_Chip A c) Pp R
inductive F_Chip_read (T : Tx P K mg) : FTX
  | mk {A : CA} {c : Chp} {place : PyData} {Pp : SD → MS → Prop} {R : RF} (hb : WfC c) (h : outC T.o_Chip T A Pp R (c.read place)) : F_Chip_read T [.raw (.ref A.a), .py place] (chM T.o_Chip A c) Pp R
inductive F_Chip_begin_deed (T : Tx P K mg) : FTX
  | mk {A : CA} {c : Chp} {Pp : SD → MS → Prop} {R : RF} (hb : WfC c) (hP : c.on = true → Pp (Tp (woP c.word)) (chM T.o_Chip A c.begun)) (hR : c.on = false → R T.e_Cut N0 (chM T.o_Chip A c)) : F_Chip_begin_deed T [.raw (.ref A.a)] (chM T.o_Chip A c) Pp R
inductive F_Chip_end_deed (T : Tx P K mg) : FTX
  | mk {A : CA} {c : Chp} {b : Int} {w : Wo} {Pp : SD → MS → Prop} {R : RF} (hb : c.bad.length ≤ 10000) (hw : WoOk w) (h : outC T.o_Chip T A Pp R (c.endD b w)) : F_Chip_end_deed T [.raw (.ref A.a), I b, .py ((woP w).headD .none)] (chM T.o_Chip A c) Pp R
theorem ok_Chip_check_page (T : Tx P K mg) : FnG P w K mg base (L2.CX P w) 9 T.a_Chip_check_page T.d_Chip_check_page ["self", "place"] (SpX K (F_Chip_check_page T)) := by
  refine fnX_okA (W9.Fun.toA T.F_Chip_check_page) sc_Chip_check_page (fun xs m Pp Rr h => by cases h <;> rfl) (fun cdv A outer s H E hcd rm xs m Pp Rr hF => ?_)
  cases hF with | @mk A c place Pp Rr hb hP hR =>
  obtain ⟨b1, b2, b3, b4⟩ := hb.b
  have hm : (-(2 ^ 64) < c.bl ∧ c.bl < 2 ^ 64) := by omega
  refine xss_one (xs_if (wt_vi (i := 0) rfl (ET.to (et_not (et_val (eg_call (ok_is_integer T) (rm.mono (by decide)) T.m_is_integer T.F_is_integer.kp T.b_is_integer (ea_cons (ee_var (i := 1) rfl) (ea_cons ee_int (ea_cons (ee_bin (ee_bin (ee_fi T.S_Chip (ee_var (i := 0) rfl) T.s_Chip_own_blocks rfl) (ee_fi T.S_Chip (ee_var (i := 0) rfl) T.s_Chip_own_pages rfl) (by walk_at "bd")) ee_int (by walk_at "bd")) ea_nil))) (by walk_at "call is_integer")))) ⟨plM_rest, ?_⟩)))
  cases hi : intB 0 (c.bl * c.pg - 1) place with
  | false => exact xss_one (xs_raise T.TD T.T_BadPlace T.m_BadPlace rm.r rfl (EE.to (ee_var (i := 1) rfl) (hR hi)))
  | true => exact xss_nil (hP hi)
theorem ok_Chip_read (T : Tx P K mg) : FnG P w K mg base (L2.CX P w) 12 T.a_Chip_read T.d_Chip_read ["self", "place"] (SpX K (F_Chip_read T)) := by
  refine fnX_okA (W9.Fun.toA T.F_Chip_read) sc_Chip_read (fun xs m Pp Rr h => by cases h <;> rfl) (fun cdv A outer s H E hcd rm xs m Pp Rr hF => ?_)
  cases hF with | @mk A c place Pp Rr hb h =>
  unfold Chp.read at h
  refine xss_cons (xs_expr (xe_meth (ok_Chip_check_page T) (rm.mono (by decide)) T.S_Chip T.M_Chip_check_page T.b_Chip_check_page (EE.to (ee_var (i := 0) rfl) (rcv_c (EA.to (ea_cons (ee_var (i := 1) rfl) ea_nil) ⟨[], _, rfl, .mk hb (fun hi => ?_) (fun hi => ?_)⟩)))))
  · rw [hi, if_neg (fun z => nomatch z)] at h
    obtain ⟨i, rfl, h1, h2⟩ := intB_of hi
    have hl := hb.cl
    refine xss_one (xs_ret (xe_of (we_vi (i := 0) rfl (we_sub (EE.to (ee_fi T.S_Chip (ee_var (i := 0) rfl) T.s_Chip_own_cells rfl) (EE.to (ee_var (i := 1) rfl) ⟨_, sub_own (l := txts c.cells) (d := tx (c.cells.getD i.toNat [])) List.mem_cons_self h1 ?_, trivial, plM_rest, h⟩))))))
    have hlt : i.toNat < c.cells.length := by omega
    rw [List.getElem?_map, List.getElem?_eq_getElem hlt, List.getD_eq_getElem?_getD, List.getElem?_eq_getElem hlt]
    rfl
  · rw [hi, if_pos rfl] at h
    exact h
theorem ok_Chip_begin_deed (T : Tx P K mg) : FnG P w K mg base (L2.CX P w) 3 T.a_Chip_begin_deed T.d_Chip_begin_deed ["self"] (SpX K (F_Chip_begin_deed T)) := by
  refine fnX_okA (W9.Fun.toA T.F_Chip_begin_deed) sc_Chip_begin_deed (fun xs m Pp Rr h => by cases h <;> rfl) (fun cdv A outer s H E hcd rm xs m Pp Rr hF => ?_)
  cases hF with | @mk A c Pp Rr hb hP hR =>
  refine xss_cons (xs_if (wt_vi (i := 0) rfl (ET.to (et_not (et_val (ee_fi T.S_Chip (ee_var (i := 0) rfl) T.s_Chip_own_is_on rfl))) ⟨plM_rest, ?_⟩)))
  cases hon : c.on with
  | false => exact xss_one (xs_raise T.TD T.T_Cut T.m_Cut rm.r rfl (EE.to ee_non (hR hon)))
  | true =>
    refine xss_nil (xss_cons (xs_of (ws_asg (we_vi (i := 0) rfl (EE.to (ee_bin (ee_fi T.S_Chip (ee_var (i := 0) rfl) T.s_Chip_own_done rfl) ee_int (by walk_at "bd")) ⟨by trivial, plM_rest, wg_sl (ee_var (i := 0) rfl) T.S_Chip T.s_Chip_own_done ?_⟩)))))
    refine xss_one (xs_ret (xe_of (we_vi (i := 0) (l := c.begun.sl A) rfl (we_get2D (k := .inl (c.done + 1)) (l := pyK (c.fs.map fvP)) (hu_of rm.r) (dk_own (ee_fi T.S_Chip (ee_var (i := 0) rfl) T.s_Chip_own_faults rfl) (me_pf (c := c))) (ee_fi T.S_Chip (ee_var (i := 0) rfl) T.s_Chip_own_done rfl) (ee_tup (eap_cons ee_non (eap_cons ee_non eap_nil))) (by rw [fv_word]; exact ⟨by trivial, plM_rest (c := c), hP hon⟩)))))
theorem ok_Chip_end_deed (T : Tx P K mg) : FnG P w K mg base (L2.CX P w) 3 T.a_Chip_end_deed T.d_Chip_end_deed ["self", "block", "word"] (SpX K (F_Chip_end_deed T)) := by
  refine fnX_okA (W9.Fun.toA T.F_Chip_end_deed) sc_Chip_end_deed (fun xs m Pp Rr h => by cases h <;> rfl) (fun cdv A outer s H E hcd rm xs m Pp Rr hF => ?_)
  cases hF with | @mk A c b w Pp Rr hb hw h =>
  refine xss_nd fun nd => ?_
  match w, hw, h with
  | none, hw, h =>
    refine xss_cons (xs_ife (k := false) (ET.is (et_cmp (ee_var (i := 2) rfl) (ee_gstr T.c_CUT) (cd_eqD (d := .none) (e := tx cutL) rm.nx (by rfl) (by decide +kernel))) (by rfl)) (fun z => nomatch z) fun _ => xss_nil ?_)
    refine xss_cons (xs_ife (k := false) (ET.is (et_cmp (ee_var (i := 2) rfl) (ee_gstr T.c_BAD) (cd_eqD (d := .none) (e := tx badL) rm.nx (by rfl) (by decide +kernel))) (by rfl)) (fun z => nomatch z) fun _ => xss_nil ?_)
    exact (xss_one (xs_ret (xe_of (we_vi (i := 0) rfl (we_ninD (k := .inl b) (l := pyK (trK c.bad)) (hu_of rm.r) (ee_var (i := 1) rfl) (dk_own (ee_fi T.S_Chip (ee_var (i := 0) rfl) T.s_Chip_own_bad rfl) (me_pb (c := c))) (by rw [getK_py, Option.isSome_map, trK_has]; exact ⟨by trivial, plM_rest (c := c), h⟩))))))
  | some (wd, pt), hw, h =>
    rcases hw.1 with rfl | rfl
    · refine xss_cons (xs_ife (k := true) (ET.is (et_cmp (ee_var (i := 2) rfl) (ee_gstr T.c_CUT) (by walk_at "cd")) (by rfl)) (fun _ => ?_) fun z => nomatch z)
      refine xss_cons (xs_of (ws_asg (we_vi (i := 0) rfl (EE.to (ee_tup (eap_cons ee_bl (eap_cons (ee_bin (ee_fi T.S_Chip (ee_var (i := 0) rfl) T.s_Chip_own_cuts rfl) ee_int (by walk_at "bd")) eap_nil))) ⟨by trivial, plM_rest, wg_tup (wgs_cons (wg_sl (ee_var (i := 0) rfl) T.S_Chip T.s_Chip_own_is_on (wgs_cons (wg_sl (ee_var (i := 0) rfl) T.S_Chip T.s_Chip_own_cuts (wgs_nil ?_)))))⟩))))
      exact xss_one (xs_raise T.TD T.T_Cut T.m_Cut rm.r rfl (EE.to ee_non h))
    · refine xss_cons (xs_ife (k := false) (ET.is (et_cmp (ee_var (i := 2) rfl) (ee_gstr T.c_CUT) (by walk_at "cd")) (by rfl)) (fun z => nomatch z) fun _ => xss_nil ?_)
      refine xss_cons (xs_ife (k := true) (ET.is (et_cmp (ee_var (i := 2) rfl) (ee_gstr T.c_BAD) (by walk_at "cd")) (by rfl)) (fun _ => ?_) fun z => nomatch z)
      refine xss_one (xs_of (ws_putDW (hu_of rm.r) (EE.to ee_bl (we_sl (ee_var (i := 0) rfl) mc_i mc_x T.S_Chip T.s_Chip_own_bad rfl ⟨rfl, EE.to (ee_var (i := 1) rfl) ⟨.inl b, _, rfl, mc_r me_pb, by rw [pyK_len, trK_len]; omega, ?_⟩⟩))))
      rw [setK_pyK, trK_put, ms_pb nd]
      exact (xss_one (xs_ret (xe_of (we_vi (i := 0) rfl (we_ninD (k := .inl b) (l := pyK (trK (putI c.bad b))) (hu_of rm.r) (ee_var (i := 1) rfl) (dk_own (ee_fi T.S_Chip (ee_var (i := 0) rfl) T.s_Chip_own_bad rfl) (me_pb (c := { c with bad := putI c.bad b }))) (by rw [getK_py, Option.isSome_map, trK_has]; exact ⟨by trivial, plM_rest (c := { c with bad := putI c.bad b }), h⟩))))))
end
end K15
end W9
namespace W9
namespace K15
open PySem PySem.Spec PyProof.Rows L2
local macro_rules | `(tactic| walk_at "sz") => `(tactic| first | assumption | omega | decide | (simp only [List.length_append, List.length_map, List.length_zipIdx, List.length_cons, List.length_nil, List.length_replicate, List.length_range, List.length_zip, List.length_take, List.length_drop]; omega) | (simp; omega) | (simp; done))
local macro_rules | `(tactic| walk_at "bd") => `(tactic| first | exact bd_add | exact bd_sub | exact bd_mul (by omega) | exact bd_mod (by omega) | exact bd_mod (by decide +kernel) | exact bd_pow (by omega) | exact bd_powX (by decide +kernel) | exact bd_div (by omega) | exact bd_addS (by walk_at "sz") | exact bd_mulS (by walk_at "sz") | exact bd_catL (by walk_at "sz"))
local macro_rules | `(tactic| walk_at "cd") => `(tactic| first | exact cd_lt | exact cd_le | exact cd_gt | exact cd_ge | exact cd_eq | exact cd_ne | exact cd_isN | exact cd_notN | exact cd_eqS | exact cd_neS | exact cd_ltS | exact cd_inS | exact cd_notinS | exact cd_inTs (Rm.mono (by assumption) (by decide)) (by assumption) (by assumption) | exact cd_notinTs | exact cd_eqT | exact cd_neT | exact cd_notinI (Rm.mono (by assumption) (by decide)))
local macro_rules | `(tactic| walk_at "ca") => `(tactic| first | exact ca_isiD (by simp) | exact ca_lenS (by walk_at "sz") | exact ca_lenL | exact ca_lenT | exact ca_allm rfl | exact ca_int | exact ca_intB | exact ca_abs | exact ca_max2 rfl | exact ca_min2 rfl | exact ca_sum rfl | exact ca_tupL | exact ca_listL | exact ca_listT | exact ca_maxS rfl | exact ca_listS rfl (by walk_at "sz"))
local macro_rules | `(tactic| walk_at "sl") => `(tactic| first | exact sl_S (by walk_at "sz") | exact sl_L | exact sl_T)
local macro_rules | `(tactic| walk_at "rg") => `(tactic| omega)
local macro_rules | `(tactic| walk_at "asc") => `(tactic| first | assumption | exact HexL.asc (by assumption))
local macro_rules | `(tactic| walk_at "sd") => `(tactic| first | exact sd_tup (by rfl) | exact sd_lst (by rfl) | exact sd_tup (at_nn (by decide) (by rfl)) | exact sd_lst (at_nn (by decide) (by rfl)))
local macro_rules | `(tactic| walk_at "call is_integer") => `(tactic| exact .mk)
local macro_rules | `(tactic| walk_at "call is_page") => `(tactic| exact .mk (by assumption))
section
variable {P : Program} {w : World} {K : PySem.W.Frag} {mg : Str → Option Value} {base : Heap}
inductive F_Chip_write (T : Tx P K mg) : FTX
  | mk {A : CA} {c : Chp} {place cells : PyData} {Pp : SD → MS → Prop} {R : RF} (hb : WfC c) (hg : gdB cells = true) (h : outC T.o_Chip T A Pp R (c.write place cells)) : F_Chip_write T [.raw (.ref A.a), .py place, .py cells] (chM T.o_Chip A c) Pp R
inductive F_Chip_erase (T : Tx P K mg) : FTX
  | mk {A : CA} {c : Chp} {block : PyData} {Pp : SD → MS → Prop} {R : RF} (hb : WfC c) (h : outC T.o_Chip T A Pp R (c.erase block)) : F_Chip_erase T [.raw (.ref A.a), .py block] (chM T.o_Chip A c) Pp R
theorem ok_Chip_write (T : Tx P K mg) : FnG P w K mg base (L2.CX P w) 12 T.a_Chip_write T.d_Chip_write ["self", "place", "cells"] (SpX K (F_Chip_write T)) := by
  refine fnX_okA (W9.Fun.toA T.F_Chip_write) sc_Chip_write (fun xs m Pp Rr h => by cases h <;> rfl) (fun cdv A outer s H E hcd rm xs m Pp Rr hF => ?_)
  cases hF with | @mk A c place cells Pp Rr hb hg h =>
  unfold Chp.write at h
  obtain ⟨b1, b2, b3, b4⟩ := hb.b
  refine xss_nd fun nd => ?_
  refine xss_cons (xs_expr (xe_meth (ok_Chip_check_page T) (rm.mono (by decide)) T.S_Chip T.M_Chip_check_page T.b_Chip_check_page (EE.to (ee_var (i := 0) rfl) (rcv_c (EA.to (ea_cons (ee_var (i := 1) rfl) ea_nil) ⟨[], _, rfl, .mk hb (fun hi => ?_) (fun hi => by rw [hi, if_pos rfl] at h; exact h)⟩)))))
  rw [hi, if_neg (fun z => nomatch z)] at h
  obtain ⟨i, rfl, h1, h2⟩ := intB_of hi
  have hl := hb.cl
  have hlt : i.toNat < c.cells.length := by omega
  cases hc : cellsB 256 256 cells with
  | false =>
    rw [hc, if_pos rfl] at h
    exact xss_cons (xs_ife (k := true) (ET.is (et_not (et_val (eg_call (ok_is_page T) (rm.mono (by decide)) T.m_is_page T.F_is_page.kp T.b_is_page (ea_cons (ee_var (i := 2) rfl) ea_nil) (by walk_at "call is_page")))) (by rw [hc]; rfl)) (fun _ => xss_one (xs_raise T.TD T.T_BadCells T.m_BadCells rm.r rfl (EE.to (ee_var (i := 2) rfl) h))) fun z => nomatch z)
  | true =>
    rw [hc, if_neg (fun z => nomatch z)] at h
    refine xss_cons (xs_ife (k := false) (ET.is (et_not (et_val (eg_call (ok_is_page T) (rm.mono (by decide)) T.m_is_page T.F_is_page.kp T.b_is_page (ea_cons (ee_var (i := 2) rfl) ea_nil) (by walk_at "call is_page")))) (by rw [hc]; rfl)) (fun z => nomatch z) fun _ => xss_nil ?_)
    obtain ⟨t, rfl, z1, z2, hx⟩ := cellsB_of hc
    have htl : t.length = 256 := by omega
    rw [strL_tx] at h
    refine xss_cons (xs_if (wt_vc (i := 0) (c := c) rfl (wt_cmp (we_sub (EE.to (ee_fi T.S_Chip (ee_var (i := 0) rfl) T.s_Chip_own_cells rfl) (EE.to (ee_var (i := 1) rfl) ⟨_, sub_own me_pc h1 (txts_get hlt), EE.to (ee_gstr T.c_EMPTY) ⟨_, cd_neS, rfl, ?_⟩⟩))))))
    have h : outC T.o_Chip T A Pp Rr (if c.cells.getD i.toNat [] ≠ emptyL then (.inl (.full, .int i), c) else if c.on = false then (.inl (.cut, .none), c) else (c.begun.wrote c.word i t).endD (i / c.pg) c.word) := h
    by_cases he : c.cells.getD i.toNat [] = emptyL
    · rw [if_neg (fun z => z he)] at h
      rw [if_neg (by rw [decide_eq_true he]; exact Bool.false_ne_true)]
      refine xss_nil (xss_cons (xs_asg (js := [3, 4]) (xe_meth0 (ok_Chip_begin_deed T) (rm.mono (by decide)) T.S_Chip T.M_Chip_begin_deed T.b_Chip_begin_deed (EE.to (ee_var (i := 0) rfl) (rcv_c ⟨[], _, rfl, .mk hb (fun hon => ?_) (fun hoff => by rw [hoff, if_pos rfl] at h; exact h)⟩)))))
      rw [hon, if_neg (fun z => nomatch z)] at h
      have hwo := hb.wo
      generalize c.word = wo at h hwo ⊢
      rw [woP_eq]
      refine wg_tup (wgs_cons (wg_name (i := 3) (wgs_cons (wg_name (i := 4) (wgs_nil ?_) sc_Chip_write.nd)) sc_Chip_write.nd))
      have b5 : 4 ≤ c.begun.pg ∧ c.begun.pg ≤ 16 := ⟨b3, b4⟩
      refine xss_cons (xs_of (ws_set (i := 5) sc_Chip_write.nd (we_vc (i := 0) (c := c.begun) rfl (EE.to (ee_bin (ee_var (i := 1) rfl) (ee_fi T.S_Chip (ee_var (i := 0) rfl) T.s_Chip_own_pages rfl) (by walk_at "bd")) ⟨by trivial, rfl, ?_⟩))))
      refine xss_mid (fun ds1 m1 => ds1 = [some (.raw (.ref A.a)), some (I i), some (S t), some (.py (wX wo)), some (.py (wY wo)), some (I (i / c.pg))] ∧ ∃ c' : Chp, m1 = chM T.o_Chip A c' ∧ c'.bad = c.bad ∧ outC T.o_Chip T A Pp Rr (c'.endD (i / c.pg) wo)) (xs_if (wt_vc (i := 0) (c := c.begun) rfl (wt_ninD (k := .inl (i / c.pg)) (l := pyK (trK c.bad)) (hu_of rm.r) (ee_var (i := 5) rfl) (dk_own (ee_fi T.S_Chip (ee_var (i := 0) rfl) T.s_Chip_own_bad rfl) (me_pb (c := c.begun))) ?_))) ?_
      · rw [getK_in]
        refine ⟨rfl, ?_⟩
        unfold Chp.wrote at h
        by_cases hbad : i / c.pg ∈ c.bad
        · rw [if_neg (by simp [hbad])]
          have h : outC T.o_Chip T A Pp Rr (Chp.endD (if i / c.pg ∈ c.bad then c.begun else _) (i / c.pg) wo) := h
          rw [if_pos hbad] at h
          exact xss_nil ⟨rfl, _, rfl, rfl, h⟩
        · rw [if_pos (by simp [hbad])]
          have h : outC T.o_Chip T A Pp Rr (Chp.endD (if i / c.pg ∈ c.bad then _ else { c.begun with cells := c.cells.set i.toNat (overW wo t t), wr := if wo.isNone && !decide (t = emptyL) then putI c.wr i else c.wr }) (i / c.pg) wo) := h
          rw [if_neg hbad] at h
          have tail : ∀ (k : Bool), (wo.isNone && !decide (t = emptyL)) = k → outC T.o_Chip T A Pp Rr (Chp.endD { c.begun with cells := c.cells.set i.toNat (overW wo t t), wr := if k then putI c.wr i else c.wr } (i / c.pg) wo) := fun k hk => by rw [← hk]; exact h
          match wo, hwo, tail with
          | none, hwo, tail =>
            refine xss_cons (xs_of (ws_storeW (EE.to (ee_if (k := true) (et_cmp (ee_var (i := 3) rfl) ee_non (by walk_at "cd")) (fun _ => (ee_var (i := 2) rfl)) (fun z => nomatch z)) ⟨tx t, rfl, we_sl (ee_var (i := 0) rfl) mc_i mc_x T.S_Chip T.s_Chip_own_cells rfl ⟨rfl, EE.to (ee_var (i := 1) rfl) ⟨i, _, rfl, mc_r (me_pc (c := c.begun)), h1, by rw [List.length_map]; show i < (c.cells.length : Int); omega, ?_⟩⟩⟩)))
            rw [set_txts, ms_pc (c := c.begun) nd]
            by_cases hem : t = emptyL
            · exact xss_one (xs_ife (k := false) (ET.is (et_w (ew_and (et_cmp (ee_var (i := 3) rfl) ee_non (by walk_at "cd")) (fun hk => (ew_and1 (et_cmp (ee_var (i := 2) rfl) (ee_gstr T.c_EMPTY) (by walk_at "cd")))))) (by show (true && !decide (t = emptyL)) = false; rw [decide_eq_true hem]; rfl)) (fun z => nomatch z) fun _ => xss_nil ⟨rfl, _, rfl, rfl, tail false (by show (true && !decide (t = emptyL)) = false; rw [decide_eq_true hem]; rfl)⟩)
            · refine xss_one (xs_ife (k := true) (ET.is (et_w (ew_and (et_cmp (ee_var (i := 3) rfl) ee_non (by walk_at "cd")) (fun hk => (ew_and1 (et_cmp (ee_var (i := 2) rfl) (ee_gstr T.c_EMPTY) (by walk_at "cd")))))) (by show (true && !decide (t = emptyL)) = true; rw [decide_eq_false hem]; rfl)) (fun _ => ?_) fun z => nomatch z)
              have hwr := hb.wr
              refine xss_one (xs_of (ws_putDW (hu_of rm.r) (EE.to ee_bl (we_sl (ee_var (i := 0) rfl) mc_i mc_x T.S_Chip T.s_Chip_own_written rfl ⟨rfl, EE.to (ee_var (i := 1) rfl) ⟨.inl i, _, rfl, mc_r me_pr, by rw [pyK_len, trK_len]; show c.wr.length < 1000000; omega, ?_⟩⟩))))
              rw [setK_pyK, trK_put, ms_pr (by exact nd)]
              exact ⟨rfl, _, rfl, rfl, tail true (by show (true && !decide (t = emptyL)) = true; rw [decide_eq_false hem]; rfl)⟩
          | some (wd, pt), hwo, tail =>
            obtain ⟨_, k2, k3, k4⟩ := hwo
            refine xss_cons (xs_of (ws_storeW (EE.to (ee_if (k := false) (et_cmp (ee_var (i := 3) rfl) ee_non (by walk_at "cd")) (fun z => nomatch z) (fun _ => (eg_call (ok_torn T) (rm.mono (by decide)) T.m_torn T.F_torn.kp T.b_torn (ea_cons (ee_var (i := 2) rfl) (ea_cons (ee_var (i := 4) rfl) ea_nil)) (.mk hx k2 k3 ⟨by omega, by omega⟩)))) ⟨tx (tornL t pt), rfl, we_sl (ee_var (i := 0) rfl) mc_i mc_x T.S_Chip T.s_Chip_own_cells rfl ⟨rfl, EE.to (ee_var (i := 1) rfl) ⟨i, _, rfl, mc_r (me_pc (c := c.begun)), h1, by rw [List.length_map]; show i < (c.cells.length : Int); omega, ?_⟩⟩⟩)))
            rw [set_txts, ms_pc (c := c.begun) nd]
            exact xss_one (xs_ife (k := false) (et_w (ew_andF (et_cmp (ee_var (i := 3) rfl) ee_non (by walk_at "cd")))) (fun z => nomatch z) fun _ => xss_nil ⟨rfl, _, rfl, rfl, tail false rfl⟩)
      · rintro ds1 m1 ⟨rfl, c', rfl, hbd, h'⟩
        have hb2 := hb.bd
        have e : wX wo = (woP wo).headD .none := by rw [woP_eq]; rfl
        refine xss_one (xs_ret (xe_meth (ok_Chip_end_deed T) (rm.mono (by decide)) T.S_Chip T.M_Chip_end_deed T.b_Chip_end_deed (EE.to (ee_var (i := 0) rfl) (rcv_c (EA.to (ea_cons (ee_var (i := 5) rfl) (ea_cons (ee_var (i := 3) rfl) ea_nil)) ⟨[], _, rfl, ?_⟩)))))
        rw [e]
        exact .mk (by rw [hbd]; omega) hwo h'
    · rw [if_pos he] at h
      rw [if_pos (by rw [decide_eq_false he]; rfl)]
      exact xss_one (xs_raise T.TD T.T_NotEmpty T.m_NotEmpty rm.r rfl (EE.to (ee_var (i := 1) rfl) h))
theorem ok_Chip_erase (T : Tx P K mg) : FnG P w K mg base (L2.CX P w) 9 T.a_Chip_erase T.d_Chip_erase ["self", "block"] (SpX K (F_Chip_erase T)) := by
  refine fnX_okA (W9.Fun.toA T.F_Chip_erase) sc_Chip_erase (fun xs m Pp Rr h => by cases h <;> rfl) (fun cdv A outer s H E hcd rm xs m Pp Rr hF => ?_)
  cases hF with | @mk A c block Pp Rr hb h =>
  unfold Chp.erase at h
  obtain ⟨b1, b2, b3, b4⟩ := hb.b
  refine xss_nd fun nd => ?_
  cases hi : intB 0 (c.bl - 1) block with
  | false =>
    rw [hi, if_pos rfl] at h
    refine xss_cons (xs_if (wt_vc (i := 0) (c := c) rfl (ET.to (d := true) (ET.is (et_not (et_val (eg_call (ok_is_integer T) (rm.mono (by decide)) T.m_is_integer T.F_is_integer.kp T.b_is_integer (ea_cons (ee_var (i := 1) rfl) (ea_cons ee_int (ea_cons (ee_bin (ee_fi T.S_Chip (ee_var (i := 0) rfl) T.s_Chip_own_blocks rfl) ee_int (by walk_at "bd")) ea_nil))) (by walk_at "call is_integer")))) (by show (!intB 0 (c.bl - 1) block) = true; rw [hi]; rfl)) ⟨rfl, ?_⟩)))
    exact xss_one (xs_raise T.TD T.T_BadBlock T.m_BadBlock rm.r rfl (EE.to (ee_var (i := 1) rfl) h))
  | true =>
    rw [hi, if_neg (fun z => nomatch z)] at h
    refine xss_cons (xs_if (wt_vc (i := 0) (c := c) rfl (ET.to (d := false) (ET.is (et_not (et_val (eg_call (ok_is_integer T) (rm.mono (by decide)) T.m_is_integer T.F_is_integer.kp T.b_is_integer (ea_cons (ee_var (i := 1) rfl) (ea_cons ee_int (ea_cons (ee_bin (ee_fi T.S_Chip (ee_var (i := 0) rfl) T.s_Chip_own_blocks rfl) ee_int (by walk_at "bd")) ea_nil))) (by walk_at "call is_integer")))) (by show (!intB 0 (c.bl - 1) block) = false; rw [hi]; rfl)) ⟨rfl, ?_⟩)))
    refine xss_nil ?_
    obtain ⟨b, rfl, h1, h2⟩ := intB_of hi
    have hwl := hb.wl
    have hcl := hb.cl
    have hblt : b.toNat < c.wear.length := by omega
    have h : outC T.o_Chip T A Pp Rr (if c.on = false then (.inl (.cut, .none), c) else (c.begun.erased c.word b).endD b c.word) := h
    refine xss_cons (xs_asg (js := [2, 3]) (xe_meth0 (ok_Chip_begin_deed T) (rm.mono (by decide)) T.S_Chip T.M_Chip_begin_deed T.b_Chip_begin_deed (EE.to (ee_var (i := 0) rfl) (rcv_c ⟨[], _, rfl, .mk hb (fun hon => ?_) (fun hoff => by rw [hoff, if_pos rfl] at h; exact h)⟩))))
    rw [hon, if_neg (fun z => nomatch z)] at h
    have hwo := hb.wo
    generalize c.word = wo at h hwo ⊢
    rw [woP_eq]
    refine wg_tup (wgs_cons (wg_name (i := 2) (wgs_cons (wg_name (i := 3) (wgs_nil ?_) sc_Chip_erase.nd)) sc_Chip_erase.nd))
    refine xss_mid (fun ds1 m1 => (∃ y, ds1 = [some (.raw (.ref A.a)), some (I b), some (.py (wX wo)), some (.py (wY wo)), y]) ∧ ∃ c' : Chp, m1 = chM T.o_Chip A c' ∧ c'.bad = c.bad ∧ outC T.o_Chip T A Pp Rr (c'.endD b wo)) (xs_if (wt_vc (i := 0) (c := c.begun) rfl (wt_ninD (k := .inl b) (l := pyK (trK c.bad)) (hu_of rm.r) (ee_var (i := 1) rfl) (dk_own (ee_fi T.S_Chip (ee_var (i := 0) rfl) T.s_Chip_own_bad rfl) (me_pb (c := c.begun))) ?_))) ?_
    · rw [getK_in]
      refine ⟨rfl, ?_⟩
      unfold Chp.erased at h
      by_cases hbad : b ∈ c.bad
      · rw [if_neg (by simp [hbad])]
        have h : outC T.o_Chip T A Pp Rr (Chp.endD (if b ∈ c.bad then c.begun else _) b wo) := h
        rw [if_pos hbad] at h
        exact xss_nil ⟨⟨_, rfl⟩, _, rfl, rfl, h⟩
      · rw [if_pos (by simp [hbad])]
        have h : outC T.o_Chip T A Pp Rr (Chp.endD (if b ∈ c.bad then _ else { c.begun with wear := c.wear.set b.toNat (c.wear.getD b.toNat 0 + 1), cells := (eraseN wo (b * c.pg) (c.cells, c.wr) c.pg.toNat).1, wr := (eraseN wo (b * c.pg) (c.cells, c.wr) c.pg.toNat).2 }) b wo) := h
        rw [if_neg hbad] at h
        refine xss_cons (xs_of (ws_storeW (we_vc (i := 0) (c := c.begun) rfl (we_bin (we_sub (EE.to (ee_fi T.S_Chip (ee_var (i := 0) rfl) T.s_Chip_own_wear rfl) (EE.to (ee_var (i := 1) rfl) ⟨_, sub_own (me_pw (c := c.begun)) h1 (ints_get' hblt), EE.to ee_int ⟨_, bd_add, by trivial, rfl, _, rfl, we_sl (ee_var (i := 0) rfl) mc_i mc_x T.S_Chip T.s_Chip_own_wear rfl ⟨rfl, EE.to (ee_var (i := 1) rfl) ⟨b, _, rfl, mc_r (me_pw (c := c.begun)), h1, by rw [List.length_map]; show b < (c.wear.length : Int); omega, ?_⟩⟩⟩⟩)))))))
        rw [set_ints, ms_pw (c := c.begun) nd]
        have hbw : 0 ≤ b * c.pg ∧ b * c.pg ≤ 1024 := ⟨Int.mul_nonneg h1 (by omega), by
          have z1 : b * c.pg ≤ 63 * c.pg := Int.mul_le_mul_of_nonneg_right (by omega) (by omega)
          omega⟩
        have hbe : (b + 1) * c.pg = b * c.pg + c.pg := by rw [Int.add_mul, Int.one_mul]
        have htop : b * c.pg + c.pg ≤ c.bl * c.pg := by
          rw [← hbe]
          exact Int.mul_le_mul_of_nonneg_right (by omega) (by omega)
        have hm1 : (-(2 ^ 64) < b ∧ b < 2 ^ 64) := by omega
        have hm2 : (-(2 ^ 64) < b + 1 ∧ b + 1 < 2 ^ 64) := by omega
        let c1 : Chp := { c.begun with wear := c.wear.set b.toNat (c.wear.getD b.toNat 0 + 1) }
        refine xss_one (xs_of (ws_for (js := [4]) (wi_range2 (we_vc (i := 0) (c := c1) rfl (EE.to (ee_bin (ee_var (i := 1) rfl) (ee_fi T.S_Chip (ee_var (i := 0) rfl) T.s_Chip_own_pages rfl) (by walk_at "bd")) ⟨by trivial, rfl, _, rfl, we_vc (i := 0) (c := c1) rfl (EE.to (ee_bin (ee_bin (ee_var (i := 1) rfl) ee_int (by walk_at "bd")) (ee_fi T.S_Chip (ee_var (i := 0) rfl) T.s_Chip_own_pages rfl) (by walk_at "bd")) ⟨by trivial, rfl, _, rfl, ?_, fun n ds1 m1 => (∃ y, ds1 = [some (.raw (.ref A.a)), some (I b), some (.py (wX wo)), some (.py (wY wo)), y]) ∧ m1 = chM T.o_Chip A (c.begun.erTo wo b n), ⟨⟨_, rfl⟩, rfl⟩, ?_, ?_⟩)⟩)) T.m_range)))
        · show -(2 ^ 62) ≤ b * c.pg ∧ b * c.pg < 2 ^ 62 ∧ -(2 ^ 62) ≤ (b + 1) * c.pg ∧ (b + 1) * c.pg < 2 ^ 62
          omega
        · rintro n x ds1 m1 hx ⟨⟨y, rfl⟩, rfl⟩
          have hn : ((b + 1) * c.pg - b * c.pg).toNat = c.pg.toNat := by rw [hbe]; congr 1; omega
          have hx : ((List.range ((b + 1) * c.pg - b * c.pg).toNat).map fun (i : Nat) => I (b * c.pg + (i : Int)))[n]? = some x := hx
          rw [hn] at hx
          obtain ⟨k, hk, rfl⟩ := map_get hx
          have hkn : k < c.pg.toNat := List.mem_range.mp (List.mem_of_getElem? hk)
          have hke : k = n := by
            have := List.getElem?_range (n := c.pg.toNat) (i := n) (by
              have := (List.getElem?_eq_some_iff.mp hk).1
              rw [List.length_range] at this; exact this)
            rw [this] at hk
            exact (Option.some.inj hk).symm
          subst hke
          refine wg_name ?_ sc_Chip_erase.nd
          have hp0 : 0 ≤ b * c.pg + (k : Int) := by omega
          have hpl : (b * c.pg + (k : Int)).toNat < (c.begun.erTo wo b k).cells.length := by
            show _ < (eraseN wo (b * c.pg) (c.cells, c.wr) k).1.length
            rw [eraseN_len]
            show _ < c.cells.length
            omega
          have hok : ∀ t ∈ (c.begun.erTo wo b k).cells, HexL t ∧ t.length = 256 := eraseN_ok hwo hb.ce hbw.1 k (by show b * c.pg + (k : Int) ≤ (c.cells.length : Int); omega)
          have hto := getD_ok hok hpl
          have nk : (ad (chM T.o_Chip A (c.begun.erTo wo b k))).Nodup := nd
          have hwrl : (c.begun.erTo wo b k).wr.length ≤ 100000 := Nat.le_trans eraseN_wr hb.wr
          match wo, hwo, hto, hpl, nk, hwrl with
          | none, _, hto, hpl, nk, hwrl =>
            refine wss_cons (ws_storeW (EE.to (ee_if (k := true) (et_cmp (ee_var (i := 2) rfl) ee_non (by walk_at "cd")) (fun _ => (ee_gstr T.c_EMPTY)) (fun z => nomatch z)) ⟨tx emptyL, rfl, we_sl (ee_var (i := 0) rfl) mc_i mc_x T.S_Chip T.s_Chip_own_cells rfl ⟨rfl, EE.to (ee_var (i := 4) rfl) ⟨_, _, rfl, mc_r me_pc, hp0, by rw [List.length_map]; omega, ?_⟩⟩⟩))
            rw [set_txts, ms_pc nk]
            refine wss_one (ws_expr (we_vx (i := 0) rfl (we_pop2D (k := .inl (b * c.pg + (k : Int))) (ee_fi T.S_Chip (ee_var (i := 0) rfl) T.s_Chip_own_written rfl) (ee_var (i := 4) rfl) ee_non me_pr ?_)))
            rw [delK_pyK, trK_del, mr_pr]
            case nd => exact nd_rest nk
            have pd : plD ((getK (pyK (trK (c.begun.erTo none b k).wr)) (.inl (b * c.pg + (k : Int)))).getD N0) := by rw [getK_py]; cases getK (trK (c.begun.erTo none b k).wr) (.inl (b * c.pg + (k : Int))) <;> trivial
            refine ⟨pd, { c.begun.erTo none b k with cells := (c.begun.erTo none b k).cells.set (b * c.pg + (k : Int)).toNat (overW none ((c.begun.erTo none b k).cells.getD (b * c.pg + (k : Int)).toNat []) emptyL), wr := delI (c.begun.erTo none b k).wr (b * c.pg + (k : Int)) }, rfl, rfl, ⟨_, rfl⟩, ?_⟩
            exact congrArg (chM T.o_Chip A) (erTo_succ c.begun none b k).symm
          | some (wd, pt), hwo, hto, hpl, nk, hwrl =>
            obtain ⟨_, k2, k3, k4⟩ := hwo
            refine wss_cons (ws_storeW (p := A.pc) (we_ife (k := false) (et_cmp (ee_var (i := 2) rfl) ee_non (by walk_at "cd")) (fun z => nomatch z) fun _ => wg_call (ok_torn T) (rm.mono (by decide)) T.m_torn T.F_torn.kp T.b_torn (wa_cons (we_sub (we_sl (ee_var (i := 0) rfl) mc_i mc_x T.S_Chip T.s_Chip_own_cells rfl (EE.to (ee_var (i := 4) rfl) ⟨_, sub_own (mc_r me_pc) hp0 (txts_get hpl), wa_cons (EE.to (ee_var (i := 3) rfl) (wa_nil ⟨[], _, rfl, _, .mk hto.1 k2 k3 ⟨by omega, by omega⟩, ?_⟩))⟩))))))
            refine ⟨tx (tornL _ pt), rfl, (show WE _ _ _ (chM T.o_Chip A (c.begun.erTo (some (wd, pt)) b k)) _ from we_sl (ee_var (i := 0) rfl) mc_i mc_x T.S_Chip T.s_Chip_own_cells rfl ⟨rfl, EE.to (ee_var (i := 4) rfl) ⟨_, _, rfl, mc_r me_pc, hp0, by rw [List.length_map]; omega, ?_⟩⟩)⟩
            rw [set_txts, ms_pc nk]
            refine wss_one (ws_expr (we_vx (i := 0) rfl (we_pop2D (k := .inl (b * c.pg + (k : Int))) (ee_fi T.S_Chip (ee_var (i := 0) rfl) T.s_Chip_own_written rfl) (ee_var (i := 4) rfl) ee_non me_pr ?_)))
            rw [delK_pyK, trK_del, mr_pr]
            case nd => exact nd_rest nk
            have pd : plD ((getK (pyK (trK (c.begun.erTo (some (wd, pt)) b k).wr)) (.inl (b * c.pg + (k : Int)))).getD N0) := by rw [getK_py]; cases getK (trK (c.begun.erTo (some (wd, pt)) b k).wr) (.inl (b * c.pg + (k : Int))) <;> trivial
            refine ⟨pd, { c.begun.erTo (some (wd, pt)) b k with cells := (c.begun.erTo (some (wd, pt)) b k).cells.set (b * c.pg + (k : Int)).toNat (overW (some (wd, pt)) ((c.begun.erTo (some (wd, pt)) b k).cells.getD (b * c.pg + (k : Int)).toNat []) emptyL), wr := delI (c.begun.erTo (some (wd, pt)) b k).wr (b * c.pg + (k : Int)) }, rfl, rfl, ⟨_, rfl⟩, ?_⟩
            exact congrArg (chM T.o_Chip A) (erTo_succ c.begun (some (wd, pt)) b k).symm
        · rintro ds1 m1 ⟨⟨y, rfl⟩, rfl⟩
          have hn : ((b + 1) * c.pg - b * c.pg).toNat = c.pg.toNat := by rw [hbe]; congr 1; omega
          refine ⟨⟨_, rfl⟩, c.begun.erTo wo b c.pg.toNat, ?_, rfl, h⟩
          show chM T.o_Chip A (c.begun.erTo wo b ((List.range ((b + 1) * c.pg - b * c.pg).toNat).map fun (i : Nat) => I (b * c.pg + (i : Int))).length) = _
          rw [List.length_map, List.length_range, hn]
    · rintro ds1 m1 ⟨⟨y, rfl⟩, c', rfl, hbd, h'⟩
      have hb2 := hb.bd
      have e : wX wo = (woP wo).headD .none := by rw [woP_eq]; rfl
      refine xss_one (xs_ret (xe_meth (ok_Chip_end_deed T) (rm.mono (by decide)) T.S_Chip T.M_Chip_end_deed T.b_Chip_end_deed (EE.to (ee_var (i := 0) rfl) (rcv_c (EA.to (ea_cons (ee_var (i := 1) rfl) (ea_cons (ee_var (i := 2) rfl) ea_nil)) ⟨[], _, rfl, ?_⟩)))))
      rw [e]
      exact .mk (by rw [hbd]; omega) hwo h'
end
end K15
end W9
namespace W9
namespace K15
open PySem PySem.Spec PyProof.Rows L2
local macro_rules | `(tactic| walk_at "sz") => `(tactic| first | assumption | omega | decide | (simp only [List.length_append, List.length_map, List.length_zipIdx, List.length_cons, List.length_nil, List.length_replicate, List.length_range, List.length_zip, List.length_take, List.length_drop]; omega) | (simp; omega) | (simp; done))
local macro_rules | `(tactic| walk_at "bd") => `(tactic| first | exact bd_add | exact bd_sub | exact bd_mul (by omega) | exact bd_mod (by omega) | exact bd_mod (by decide +kernel) | exact bd_pow (by omega) | exact bd_powX (by decide +kernel) | exact bd_div (by omega) | exact bd_addS (by walk_at "sz") | exact bd_mulS (by walk_at "sz") | exact bd_catL (by walk_at "sz"))
local macro_rules | `(tactic| walk_at "cd") => `(tactic| first | exact cd_lt | exact cd_le | exact cd_gt | exact cd_ge | exact cd_eq | exact cd_ne | exact cd_isN | exact cd_notN | exact cd_eqS | exact cd_neS | exact cd_ltS | exact cd_inS | exact cd_notinS | exact cd_inTs (Rm.mono (by assumption) (by decide)) (by assumption) (by assumption) | exact cd_notinTs | exact cd_eqT | exact cd_neT | exact cd_notinI (Rm.mono (by assumption) (by decide)))
local macro_rules | `(tactic| walk_at "ca") => `(tactic| first | exact ca_isiD (by simp) | exact ca_lenS (by walk_at "sz") | exact ca_lenL | exact ca_lenT | exact ca_allm rfl | exact ca_int | exact ca_intB | exact ca_abs | exact ca_max2 rfl | exact ca_min2 rfl | exact ca_sum rfl | exact ca_tupL | exact ca_listL | exact ca_listT | exact ca_maxS rfl | exact ca_listS rfl (by walk_at "sz"))
local macro_rules | `(tactic| walk_at "sl") => `(tactic| first | exact sl_S (by walk_at "sz") | exact sl_L | exact sl_T)
local macro_rules | `(tactic| walk_at "rg") => `(tactic| omega)
local macro_rules | `(tactic| walk_at "asc") => `(tactic| first | assumption | exact HexL.asc (by assumption))
local macro_rules | `(tactic| walk_at "sd") => `(tactic| first | exact sd_tup (by rfl) | exact sd_lst (by rfl) | exact sd_tup (at_nn (by decide) (by rfl)) | exact sd_lst (at_nn (by decide) (by rfl)))
local macro_rules | `(tactic| walk_at "call is_integer") => `(tactic| exact .mk)
local macro_rules | `(tactic| walk_at "call are_cells") => `(tactic| exact .mk (by assumption))
local macro_rules | `(tactic| walk_at "call is_fault") => `(tactic| exact .mk (by assumption))
section
variable {P : Program} {w : World} {K : PySem.W.Frag} {mg : Str → Option Value} {base : Heap}
inductive F_Chip_fault (T : Tx P K mg) : FTX
  | mk {A : CA} {c : Chp} {a w p : PyData} {Pp : SD → MS → Prop} {R : RF} (hb : WfC c) (hg : gdB (.tuple [a, w, p]) = true) (h : outC T.o_Chip T A Pp R (c.fault a w p)) (hn : faultB (.tuple [a, w, p]) = true → c.pend = [] → c.done + toI a ∉ c.fs.map (·.1)) : F_Chip_fault T [.raw (.ref A.a), .py a, .py w, .py p] (chM T.o_Chip A c) Pp R
inductive F_Chip_can_fade (T : Tx P K mg) : FT
  | mk {A : CA} {c : Chp} {i : Int} {cell sign : PyData} {Pp : SD → MS → Prop} (hb : WfC c) (hi : 0 ≤ i ∧ i < c.bl * c.pg) (hg : gdB sign = true) (h : Pp (B (c.canFade i cell sign)) (chM T.o_Chip A c)) : F_Chip_can_fade T [.raw (.ref A.a), I i, .py cell, .py sign] (chM T.o_Chip A c) Pp
inductive F_Chip_fade (T : Tx P K mg) : FTX
  | mk {A : CA} {c : Chp} {place cell sign : PyData} {Pp : SD → MS → Prop} {R : RF} (hb : WfC c) (hg : gdB sign = true) (h : outC T.o_Chip T A Pp R (c.fade place cell sign)) : F_Chip_fade T [.raw (.ref A.a), .py place, .py cell, .py sign] (chM T.o_Chip A c) Pp R
inductive F_Chip_image (T : Tx P K mg) : FT
  | mk {A : CA} {c : Chp} {Pp : SD → MS → Prop} (h : Pp (Tp (txts c.cells)) (chM T.o_Chip A c)) : F_Chip_image T [.raw (.ref A.a)] (chM T.o_Chip A c) Pp
inductive F_Chip_wear (T : Tx P K mg) : FT
  | mk {A : CA} {c : Chp} {Pp : SD → MS → Prop} (h : Pp (Tp (c.wear.map .int)) (chM T.o_Chip A c)) : F_Chip_wear T [.raw (.ref A.a)] (chM T.o_Chip A c) Pp
inductive F_Chip_bad (T : Tx P K mg) : FT
  | mk {A : CA} {c : Chp} {Pp : SD → MS → Prop} (hl : c.bad.length < 64) (h : Pp (Tp ((srtI c.bad).map .int)) (chM T.o_Chip A c)) : F_Chip_bad T [.raw (.ref A.a)] (chM T.o_Chip A c) Pp
inductive F_Chip_done (T : Tx P K mg) : FT
  | mk {A : CA} {c : Chp} {Pp : SD → MS → Prop} (h : Pp (I c.done) (chM T.o_Chip A c)) : F_Chip_done T [.raw (.ref A.a)] (chM T.o_Chip A c) Pp
inductive F_Chip_cuts (T : Tx P K mg) : FT
  | mk {A : CA} {c : Chp} {Pp : SD → MS → Prop} (h : Pp (I c.cuts) (chM T.o_Chip A c)) : F_Chip_cuts T [.raw (.ref A.a)] (chM T.o_Chip A c) Pp
inductive F_Chip_is_on (T : Tx P K mg) : FT
  | mk {A : CA} {c : Chp} {Pp : SD → MS → Prop} (h : Pp (B c.on) (chM T.o_Chip A c)) : F_Chip_is_on T [.raw (.ref A.a)] (chM T.o_Chip A c) Pp
theorem ok_Chip_done (T : Tx P K mg) : FnG P w K mg base CX0 3 T.a_Chip_done T.d_Chip_done ["self"] (SpD K (F_Chip_done T)) := by
  refine fnD_okA (W9.Fun.toA T.F_Chip_done) sc_Chip_done (fun xs m Pp h => by cases h <;> rfl) (fun cdv A outer s H E hcd rm xs m Pp hF => ?_)
  cases hF with | @mk A c Pp h =>
  exact wss_one (ws_ret (we_vc (i := 0) (c := c) rfl (EE.to (ee_fi T.S_Chip (ee_var (i := 0) rfl) T.s_Chip_own_done rfl) ⟨by trivial, rfl, h⟩)))
theorem ok_Chip_cuts (T : Tx P K mg) : FnG P w K mg base CX0 3 T.a_Chip_cuts T.d_Chip_cuts ["self"] (SpD K (F_Chip_cuts T)) := by
  refine fnD_okA (W9.Fun.toA T.F_Chip_cuts) sc_Chip_cuts (fun xs m Pp h => by cases h <;> rfl) (fun cdv A outer s H E hcd rm xs m Pp hF => ?_)
  cases hF with | @mk A c Pp h =>
  exact wss_one (ws_ret (we_vc (i := 0) (c := c) rfl (EE.to (ee_fi T.S_Chip (ee_var (i := 0) rfl) T.s_Chip_own_cuts rfl) ⟨by trivial, rfl, h⟩)))
theorem ok_Chip_is_on (T : Tx P K mg) : FnG P w K mg base CX0 3 T.a_Chip_is_on T.d_Chip_is_on ["self"] (SpD K (F_Chip_is_on T)) := by
  refine fnD_okA (W9.Fun.toA T.F_Chip_is_on) sc_Chip_is_on (fun xs m Pp h => by cases h <;> rfl) (fun cdv A outer s H E hcd rm xs m Pp hF => ?_)
  cases hF with | @mk A c Pp h =>
  exact wss_one (ws_ret (we_vc (i := 0) (c := c) rfl (EE.to (ee_fi T.S_Chip (ee_var (i := 0) rfl) T.s_Chip_own_is_on rfl) ⟨by trivial, rfl, h⟩)))
theorem ok_Chip_bad (T : Tx P K mg) : FnG P w K mg base CX0 3 T.a_Chip_bad T.d_Chip_bad ["self"] (SpD K (F_Chip_bad T)) := by
  refine fnD_okA (W9.Fun.toA T.F_Chip_bad) sc_Chip_bad (fun xs m Pp h => by cases h <;> rfl) (fun cdv A outer s H E hcd rm xs m Pp hF => ?_)
  cases hF with | @mk A c Pp hl h =>
  exact wss_one (ws_ret (we_vc (i := 0) (c := c) rfl (we_callTy (wa_cons (we_sortedD (ks := c.bad) rfl (dk_own (ee_fi T.S_Chip (ee_var (i := 0) rfl) T.s_Chip_own_bad rfl) me_pb) (by rw [pyK_keys, trK_keys]) hl (wa_nil ⟨_, ca_tupL, by trivial, rfl, h⟩) T.m_sorted bo_sorted)) T.m_tuple bo_tuple)))
theorem vw_ch {X : Cx} {C : Addr} {A : CA} {c : Chp} {ds : DE} {i : Nat} (hd : ds[i]? = some (some (.raw (.ref A.a)))) :
    Vw X (chM C A c) ds (ds.set i (some (FI X.K C [some (.raw (.ref A.pb)), some (I c.bl), some (Ls (txts c.cells)), some (I c.cuts), some (I c.done), some (.raw (.ref A.pf)), some (B c.on), some (I c.pg), some (Ls (c.wear.map .int)), some (.raw (.ref A.pr))]))) :=
  vw_ins vw_refl hd mc_i mc_x (.same (.same (.lst (mc_r me_pc) (.same (.same (.same (.same (.same (.lst (mc_r me_pw) (.same .nil))))))))))
theorem ok_Chip_image (T : Tx P K mg) : FnG P w K mg base CX0 3 T.a_Chip_image T.d_Chip_image ["self"] (SpD K (F_Chip_image T)) := by
  refine fnD_okA (W9.Fun.toA T.F_Chip_image) sc_Chip_image (fun xs m Pp h => by cases h <;> rfl) (fun cdv A outer s H E hcd rm xs m Pp hF => ?_)
  cases hF with | @mk A c Pp h =>
  exact wss_one (ws_ret (we_vw (vw_ch (i := 0) (c := c) rfl) (ee_callTy (ea_cons (ee_fi T.S_Chip (ee_var (i := 0) rfl) T.s_Chip_own_cells rfl) ea_nil) (fun m => by walk_at "ca") T.m_tuple bo_tuple) h (lf_txts _)))
theorem ok_Chip_wear (T : Tx P K mg) : FnG P w K mg base CX0 3 T.a_Chip_wear T.d_Chip_wear ["self"] (SpD K (F_Chip_wear T)) := by
  refine fnD_okA (W9.Fun.toA T.F_Chip_wear) sc_Chip_wear (fun xs m Pp h => by cases h <;> rfl) (fun cdv A outer s H E hcd rm xs m Pp hF => ?_)
  cases hF with | @mk A c Pp h =>
  exact wss_one (ws_ret (we_vw (vw_ch (i := 0) (c := c) rfl) (ee_callTy (ea_cons (ee_fi T.S_Chip (ee_var (i := 0) rfl) T.s_Chip_own_wear rfl) ea_nil) (fun m => by walk_at "ca") T.m_tuple bo_tuple) h (lf_ints _)))
theorem ok_Chip_can_fade (T : Tx P K mg) : FnG P w K mg base CX0 9 T.a_Chip_can_fade T.d_Chip_can_fade ["self", "place", "cell", "sign"] (SpD K (F_Chip_can_fade T)) := by
  refine fnD_okA (W9.Fun.toA T.F_Chip_can_fade) sc_Chip_can_fade (fun xs m Pp h => by cases h <;> rfl) (fun cdv A outer s H E hcd rm xs m Pp hF => ?_)
  cases hF with | @mk A c i cell sign Pp hb hi hg h =>
  unfold Chp.canFade at h
  have hcl := hb.cl
  have hlt : i.toNat < c.cells.length := by omega
  by_cases h0 : (intB 0 255 cell && cellsB 1 1 sign) = true
  · rw [h0] at h
    rw [Bool.and_eq_true] at h0
    obtain ⟨k, rfl, k1, k2⟩ := intB_of h0.1
    obtain ⟨u, rfl, u1, u2, uh⟩ := cellsB_of h0.2
    have hc := (hb.ce _ (List.getElem_mem hlt))
    have hge : c.cells.getD i.toNat [] = c.cells[i.toNat] := by rw [List.getD_eq_getElem?_getD, List.getElem?_eq_getElem hlt]; rfl
    rw [← hge] at hc
    have hk : k.toNat < (c.cells.getD i.toNat []).length := by rw [hc.2]; omega
    have hks : (c.cells.getD i.toNat [])[k.toNat]? = some ((c.cells.getD i.toNat []).getD k.toNat 0) := by rw [List.getD_eq_getElem?_getD (l := c.cells.getD i.toNat []), List.getElem?_eq_getElem hk]; rfl
    refine wss_cons (ws_ife (k := false) (ET.is (et_w (ew_or (et_not (et_val (eg_call (ok_is_integer T) (rm.mono (by decide)) T.m_is_integer T.F_is_integer.kp T.b_is_integer (ea_cons (ee_var (i := 2) rfl) (ea_cons ee_int (ea_cons (ee_bin (ee_gint T.c_CELLS_A_PAGE) ee_int (by walk_at "bd")) ea_nil))) (by walk_at "call is_integer")))) fun _ => ew_or1 (et_not (et_val (eg_call (ok_are_cells T) (rm.mono (by decide)) T.m_are_cells T.F_are_cells.kp T.b_are_cells (ea_cons (ee_var (i := 3) rfl) (ea_cons ee_int (ea_cons ee_int ea_nil))) (by walk_at "call are_cells")))))) (by show (!intB 0 255 (.int k) || !cellsB 1 1 (tx u)) = false; rw [h0.1, h0.2]; rfl)) (fun z => nomatch z) fun _ => wss_nil ?_)
    rw [strL_tx] at h
    refine wss_one (ws_ret (we_vc (i := 0) (c := c) rfl (we_and (we_inD (k := .inl i) (l := pyK (trK c.wr)) (hu_of rm.r) (ee_var (i := 1) rfl) (dk_own (ee_fi T.S_Chip (ee_var (i := 0) rfl) T.s_Chip_own_written rfl) me_pr) ⟨_, rfl, ?_⟩))))
    rw [getK_in]
    by_cases hw : i ∈ c.wr
    · rw [if_pos (by simp [hw])]
      rw [show decide (i ∈ c.wr) = true from decide_eq_true hw] at h
      refine we_one (we_cmp (EE.to (ee_var (i := 3) rfl) (we_sub (we_sub (EE.to (ee_fi T.S_Chip (ee_var (i := 0) rfl) T.s_Chip_own_cells rfl) (EE.to (ee_var (i := 1) rfl) ⟨_, sub_own me_pc hi.1 (txts_get hlt), EE.to (ee_var (i := 2) rfl) ⟨_, sd_str (at_nn k1 hks) (by omega), _, cd_ltS, by trivial, rfl, h⟩⟩))))))
    · rw [if_neg (by simp [hw])]
      rw [show decide (i ∈ c.wr) = false from decide_eq_false hw] at h
      exact ⟨by trivial, rfl, h⟩
  · rw [show (intB 0 255 cell && cellsB 1 1 sign) = false by simpa using h0] at h
    refine wss_cons (ws_ife (k := true) (ET.is (et_w (ew_or (et_not (et_val (eg_call (ok_is_integer T) (rm.mono (by decide)) T.m_is_integer T.F_is_integer.kp T.b_is_integer (ea_cons (ee_var (i := 2) rfl) (ea_cons ee_int (ea_cons (ee_bin (ee_gint T.c_CELLS_A_PAGE) ee_int (by walk_at "bd")) ea_nil))) (by walk_at "call is_integer")))) fun _ => ew_or1 (et_not (et_val (eg_call (ok_are_cells T) (rm.mono (by decide)) T.m_are_cells T.F_are_cells.kp T.b_are_cells (ea_cons (ee_var (i := 3) rfl) (ea_cons ee_int (ea_cons ee_int ea_nil))) (by walk_at "call are_cells")))))) ?_) (fun _ => wss_one (ws_retE ee_bl h)) fun z => nomatch z)
    show (!intB 0 255 cell || !cellsB 1 1 sign) = true
    revert h0
    cases intB 0 255 cell <;> cases cellsB 1 1 sign <;> simp
end
end K15
end W9
namespace W9
namespace K15
open PySem PySem.Spec PyProof.Rows L2
local macro_rules | `(tactic| walk_at "sz") => `(tactic| first | assumption | omega | decide | (simp only [List.length_append, List.length_map, List.length_zipIdx, List.length_cons, List.length_nil, List.length_replicate, List.length_range, List.length_zip, List.length_take, List.length_drop]; omega) | (simp; omega) | (simp; done))
local macro_rules | `(tactic| walk_at "bd") => `(tactic| first | exact bd_add | exact bd_sub | exact bd_mul (by omega) | exact bd_mod (by omega) | exact bd_mod (by decide +kernel) | exact bd_pow (by omega) | exact bd_powX (by decide +kernel) | exact bd_div (by omega) | exact bd_addS (by walk_at "sz") | exact bd_mulS (by walk_at "sz") | exact bd_catL (by walk_at "sz"))
local macro_rules | `(tactic| walk_at "cd") => `(tactic| first | exact cd_lt | exact cd_le | exact cd_gt | exact cd_ge | exact cd_eq | exact cd_ne | exact cd_isN | exact cd_notN | exact cd_eqS | exact cd_neS | exact cd_ltS | exact cd_inS | exact cd_notinS | exact cd_inTs (Rm.mono (by assumption) (by decide)) (by assumption) (by assumption) | exact cd_notinTs | exact cd_eqT | exact cd_neT | exact cd_notinI (Rm.mono (by assumption) (by decide)))
local macro_rules | `(tactic| walk_at "ca") => `(tactic| first | exact ca_isiD (by simp) | exact ca_lenS (by walk_at "sz") | exact ca_lenL | exact ca_lenT | exact ca_allm rfl | exact ca_int | exact ca_intB | exact ca_abs | exact ca_max2 rfl | exact ca_min2 rfl | exact ca_sum rfl | exact ca_tupL | exact ca_listL | exact ca_listT | exact ca_maxS rfl | exact ca_listS rfl (by walk_at "sz"))
local macro_rules | `(tactic| walk_at "sl") => `(tactic| first | exact sl_S (by walk_at "sz") | exact sl_L | exact sl_T)
local macro_rules | `(tactic| walk_at "rg") => `(tactic| omega)
local macro_rules | `(tactic| walk_at "asc") => `(tactic| first | assumption | exact HexL.asc (by assumption))
local macro_rules | `(tactic| walk_at "sd") => `(tactic| first | exact sd_tup (by rfl) | exact sd_lst (by rfl) | exact sd_tup (at_nn (by decide) (by rfl)) | exact sd_lst (at_nn (by decide) (by rfl)))
local macro_rules | `(tactic| walk_at "call is_integer") => `(tactic| exact .mk)
local macro_rules | `(tactic| walk_at "call is_fault") => `(tactic| exact .mk (by assumption))
local macro_rules | `(tactic| walk_at "call are_faults") => `(tactic| exact .mk (by assumption))
section
variable {P : Program} {w : World} {K : PySem.W.Frag} {mg : Str → Option Value} {base : Heap}
theorem sh_intL {l : List Int} : SeqAt.shaped (.list (l.map .int)) = true := sh_ints
theorem ok_Chip_fault (T : Tx P K mg) : FnG P w K mg base (L2.CX P w) 12 T.a_Chip_fault T.d_Chip_fault ["self", "ahead", "word", "pattern"] (SpX K (F_Chip_fault T)) := by
  refine fnX_okA (W9.Fun.toA T.F_Chip_fault) sc_Chip_fault (fun xs m Pp Rr h => by cases h <;> rfl) (fun cdv A outer s H E hcd rm xs m Pp Rr hF => ?_)
  cases hF with | @mk A c a w p Pp Rr hb hg h hn =>
  unfold Chp.fault at h
  refine xss_nd fun nd => ?_
  refine xss_cons (xs_of (ws_setE (i := 4) sc_Chip_fault.nd (ee_tup (eap_cons (ee_var (i := 1) rfl) (eap_cons (ee_var (i := 2) rfl) (eap_cons (ee_var (i := 3) rfl) eap_nil)))) ?_))
  cases hf : faultB (.tuple [a, w, p]) with
  | false =>
    rw [hf, if_pos rfl] at h
    exact xss_cons (xs_ife (k := true) (ET.is (et_not (et_val (eg_call (ok_is_fault T) (rm.mono (by decide)) T.m_is_fault T.F_is_fault.kp T.b_is_fault (ea_cons (ee_var (i := 4) rfl) ea_nil) (by walk_at "call is_fault")))) (by rw [hf]; rfl)) (fun _ => xss_one (xs_raise T.TD T.T_BadFault T.m_BadFault rm.r rfl (EE.to (ee_var (i := 4) rfl) h))) fun z => nomatch z)
  | true =>
    rw [hf, if_neg (fun z => nomatch z)] at h
    refine xss_cons (xs_ife (k := false) (ET.is (et_not (et_val (eg_call (ok_is_fault T) (rm.mono (by decide)) T.m_is_fault T.F_is_fault.kp T.b_is_fault (ea_cons (ee_var (i := 4) rfl) ea_nil) (by walk_at "call is_fault")))) (by rw [hf]; rfl)) (fun z => nomatch z) fun _ => xss_nil ?_)
    obtain ⟨i, x, y, e, hi1, hx, hy⟩ := faultB_three hf
    cases e
    have hfl := hb.fl
    refine xss_cons (xs_of (ws_setLcG (i := 5) (srtI (c.fs.map (·.1))) (fun k => I k) (fun k => decide (c.done < k)) (fun k => .int k) (fun k ds => ds.set 6 (some (I k))) [("at", 6)] rfl sc_Chip_fault.nd
      (wi_lst (we_vc (i := 0) (c := c) rfl (we_sortedD (ks := c.fs.map (·.1)) rfl (dk_own (ee_fi T.S_Chip (ee_var (i := 0) rfl) T.s_Chip_own_faults rfl) me_pf) (by rw [pyK_keys, fv_keys]) (by rw [List.length_map]; omega) ⟨by trivial, rfl, _, rfl, by rw [List.map_map]; rfl, rfl⟩ T.m_sorted bo_sorted)))
      (by rw [(srtI_perm _).length_eq, List.length_map]; omega)
      (fun k _ s H Ce cl fp ds m Q hq => wg_name hq sc_Chip_fault.nd)
      (fun k _ s H Ce cl fp Q hq => wts_one (wt_vc (i := 0) (c := c) rfl (ET.to (et_cmp (ee_var (i := 6) rfl) (ee_fi T.S_Chip (ee_var (i := 0) rfl) T.s_Chip_own_done rfl) (by walk_at "cd")) ⟨rfl, hq⟩)))
      (fun k _ _ s H Ce cl fp Q hq => EE.to (ee_var (i := 6) rfl) hq) (blkOk_by (by rfl)) ?_))
    have h : outC T.o_Chip T A Pp Rr (match c.pend with | i :: _ => (.inl (.pending, .int i), c) | [] => (.inr .none, { c with fs := c.fs ++ [(c.done + i, x.cps.toList, y.cps.toList)] })) := h
    have ep : ((srtI (c.fs.map (·.1))).filter fun k => decide (c.done < k)) = c.pend := rfl
    rw [ep]
    cases hpd : c.pend with
    | cons k l =>
      rw [hpd] at h
      refine xss_cons (xs_ife (k := true) (ET.is (et_cmp (ee_var (i := 5) rfl) (EE.is (ee_lst eap_nil) (show Ls [] = Ls (([] : List Int).map .int) from rfl)) (cd_neD rm.nx sh_intL sh_intL)) (by rfl)) (fun _ => ?_) fun z => nomatch z)
      exact xss_one (xs_raise T.TD T.T_Pending T.m_Pending rm.r rfl (EE.to (ee_sub (ee_var (i := 5) rfl) ee_int (fun m => by walk_at "sd")) h))
    | nil =>
      rw [hpd] at h
      have hn := hn hf hpd
      refine xss_cons (xs_ife (k := false) (ET.is (et_cmp (ee_var (i := 5) rfl) (EE.is (ee_lst eap_nil) (show Ls [] = Ls (([] : List Int).map .int) from rfl)) (cd_neD rm.nx sh_intL sh_intL)) (by rfl)) (fun z => nomatch z) fun _ => xss_nil ?_)
      refine xss_one (xs_of (ws_putDW (hu_of rm.r) (EE.to (ee_tup (eap_cons (ee_var (i := 2) rfl) (eap_cons (ee_var (i := 3) rfl) eap_nil))) (we_sl (ee_var (i := 0) rfl) mc_i mc_x T.S_Chip T.s_Chip_own_faults rfl ⟨rfl, we_vc (i := 0) (c := c) rfl (EE.to (ee_bin (ee_fi T.S_Chip (ee_var (i := 0) rfl) T.s_Chip_own_done rfl) (ee_var (i := 1) rfl) (by walk_at "bd")) ⟨by trivial, rfl, .inl (c.done + i), _, rfl, mc_r me_pf, by rw [pyK_len, List.length_map]; omega, ?_⟩)⟩))))
      have e : PyData.tuple [.str x, .str y] = .tuple [tx x.cps.toList, tx y.cps.toList] := by unfold tx; rw [← str_eta, ← str_eta]
      rw [setK_pyK, e, fv_put (q := (c.done + i, x.cps.toList, y.cps.toList)) hn, ms_pf nd]
      exact h
theorem ok_Chip_fade (T : Tx P K mg) : FnG P w K mg base (L2.CX P w) 12 T.a_Chip_fade T.d_Chip_fade ["self", "place", "cell", "sign"] (SpX K (F_Chip_fade T)) := by
  refine fnX_okA (W9.Fun.toA T.F_Chip_fade) sc_Chip_fade (fun xs m Pp Rr h => by cases h <;> rfl) (fun cdv A outer s H E hcd rm xs m Pp Rr hF => ?_)
  cases hF with | @mk A c place cell sign Pp Rr hb hg h =>
  unfold Chp.fade at h
  refine xss_nd fun nd => ?_
  refine xss_cons (xs_expr (xe_meth (ok_Chip_check_page T) (rm.mono (by decide)) T.S_Chip T.M_Chip_check_page T.b_Chip_check_page (EE.to (ee_var (i := 0) rfl) (rcv_c (EA.to (ea_cons (ee_var (i := 1) rfl) ea_nil) ⟨[], _, rfl, .mk hb (fun hi => ?_) (fun hi => by rw [hi, if_pos rfl] at h; exact h)⟩)))))
  rw [hi, if_neg (fun z => nomatch z)] at h
  obtain ⟨i, rfl, h1, h2⟩ := intB_of hi
  have hcl := hb.cl
  have hlt : i.toNat < c.cells.length := by omega
  refine xss_cons (xs_if (wt_not (wt_val (wg_meth (ok_Chip_can_fade T) (rm.mono (by decide)) T.S_Chip T.M_Chip_can_fade T.b_Chip_can_fade (EE.to (ee_var (i := 0) rfl) (rcv_c (EA.to (ea_cons (ee_var (i := 1) rfl) (ea_cons (ee_var (i := 2) rfl) (ea_cons (ee_var (i := 3) rfl) ea_nil))) ⟨[], _, rfl, .mk hb ⟨h1, by omega⟩ hg ⟨_, rfl, ?_⟩⟩)))))))
  have h : outC T.o_Chip T A Pp Rr (if c.canFade i cell sign = false then (.inl (.fade, .tuple [cell, sign]), c) else (.inr .none, { c with cells := c.cells.set i.toNat (fadeT (c.cells.getD i.toNat []) (toI cell) (strL sign)), wr := delI c.wr i })) := h
  cases hcf : c.canFade i cell sign with
  | false =>
    rw [hcf, if_pos rfl] at h
    exact xss_one (xs_raise T.TD T.T_BadFade T.m_BadFade rm.r rfl (EE.to (ee_tup (eap_cons (ee_var (i := 2) rfl) (eap_cons (ee_var (i := 3) rfl) eap_nil))) h))
  | true =>
    rw [hcf, if_neg (fun z => nomatch z)] at h
    unfold Chp.canFade at hcf
    rw [Bool.and_eq_true, Bool.and_eq_true, Bool.and_eq_true] at hcf
    obtain ⟨⟨c1, c2⟩, c3, c4⟩ := hcf
    obtain ⟨k, rfl, k1, k2⟩ := intB_of c1
    obtain ⟨u, rfl, u1, u2, uh⟩ := cellsB_of c2
    have hwm : i ∈ c.wr := of_decide_eq_true c3
    rw [strL_tx] at h
    have hc := (getD_ok hb.ce hlt).2
    refine xss_nil (xss_cons (xs_of (ws_set (i := 4) sc_Chip_fade.nd (we_vc (i := 0) (c := c) rfl (we_sub (EE.to (ee_fi T.S_Chip (ee_var (i := 0) rfl) T.s_Chip_own_cells rfl) (EE.to (ee_var (i := 1) rfl) ⟨_, sub_own me_pc h1 (txts_get hlt), by trivial, rfl, ?_⟩)))))))
    generalize c.cells.getD i.toNat [] = t at h hc ⊢
    have hct : ∀ lo hi, (cut t lo hi).length ≤ 1000 := fun lo hi => by unfold cut; rw [List.length_take, List.length_drop]; omega
    refine xss_cons (xs_of (ws_storeW (p := A.pc) (EE.to (EE.is (ee_bin (ee_bin (ee_slice (ee_var (i := 4) rfl) eo_none (eo_some (ee_var (i := 2) rfl)) (fun m => by walk_at "sl")) (ee_var (i := 3) rfl) (bd_addS (by have := hct none (some k); omega))) (ee_slice (ee_var (i := 4) rfl) (eo_some (ee_bin (ee_var (i := 2) rfl) ee_int (by walk_at "bd"))) eo_none (fun m => by walk_at "sl")) (bd_addS (by have := hct none (some k); have := hct (some (k + 1)) none; rw [List.length_append]; omega))) (show _ = S (fadeT t k u) from rfl)) ⟨tx (fadeT t k u), rfl, we_sl (ee_var (i := 0) rfl) mc_i mc_x T.S_Chip T.s_Chip_own_cells rfl ⟨rfl, EE.to (ee_var (i := 1) rfl) ⟨i, _, rfl, mc_r me_pc, h1, by rw [List.length_map]; omega, ?_⟩⟩⟩)))
    rw [set_txts, ms_pc nd]
    refine xss_one (xs_of (ws_expr (we_vx (i := 0) (c := { c with cells := c.cells.set i.toNat (fadeT t k u) }) rfl (we_pop1D (k := .inl i) (d := B true) (ee_fi T.S_Chip (ee_var (i := 0) rfl) T.s_Chip_own_written rfl) (ee_var (i := 1) rfl) (me_pr (c := { c with cells := c.cells.set i.toNat (fadeT t k u) })) ?_ ?_))))
    · show getK (pyK (trK c.wr)) (.inl i) = some (B true)
      rw [getK_py]
      have : (getK (trK c.wr) (.inl i)).isSome = true := by rw [trK_has]; exact c3
      have hv : ∀ d, getK (trK c.wr) (.inl i) = some d → d = .bool true := fun d hd => by
        unfold getK at hd
        cases hq : (trK c.wr).find? fun q => decide (q.1 = (.inl i : Key)) with
        | none => rw [hq] at hd; cases hd
        | some q =>
          rw [hq] at hd
          obtain ⟨j, _, rfl⟩ := List.mem_map.mp (List.mem_of_find?_eq_some hq)
          cases hd; rfl
      cases hd : getK (trK c.wr) (.inl i) with
      | none => rw [hd] at this; cases this
      | some d => rw [hv d hd]; rfl
    · rw [delK_pyK, trK_del, mr_pr]
      case nd => exact nd_rest nd
      exact ⟨by trivial, { c with cells := c.cells.set i.toNat (fadeT t k u), wr := delI c.wr i }, rfl, rfl, h⟩
end
end K15
end W9
namespace W9
namespace K15
open PySem PySem.Spec PyProof.Rows L2
local macro_rules | `(tactic| walk_at "sz") => `(tactic| first | assumption | omega | decide | (simp only [List.length_append, List.length_map, List.length_zipIdx, List.length_cons, List.length_nil, List.length_replicate, List.length_range, List.length_zip, List.length_take, List.length_drop]; omega) | (simp; omega) | (simp; done))
local macro_rules | `(tactic| walk_at "bd") => `(tactic| first | exact bd_add | exact bd_sub | exact bd_mul (by omega) | exact bd_mod (by omega) | exact bd_mod (by decide +kernel) | exact bd_pow (by omega) | exact bd_powX (by decide +kernel) | exact bd_div (by omega) | exact bd_addS (by walk_at "sz") | exact bd_mulS (by walk_at "sz") | exact bd_catL (by walk_at "sz"))
local macro_rules | `(tactic| walk_at "cd") => `(tactic| first | exact cd_lt | exact cd_le | exact cd_gt | exact cd_ge | exact cd_eq | exact cd_ne | exact cd_isN | exact cd_notN | exact cd_eqS | exact cd_neS | exact cd_ltS | exact cd_inS | exact cd_notinS | exact cd_inTs (Rm.mono (by assumption) (by decide)) (by assumption) (by assumption) | exact cd_notinTs | exact cd_eqT | exact cd_neT | exact cd_notinI (Rm.mono (by assumption) (by decide)))
local macro_rules | `(tactic| walk_at "ca") => `(tactic| first | exact ca_isiD (by simp) | exact ca_lenS (by walk_at "sz") | exact ca_lenL | exact ca_lenT | exact ca_allm rfl | exact ca_int | exact ca_intB | exact ca_abs | exact ca_max2 rfl | exact ca_min2 rfl | exact ca_sum rfl | exact ca_tupL | exact ca_listL | exact ca_listT | exact ca_maxS rfl | exact ca_listS rfl (by walk_at "sz"))
local macro_rules | `(tactic| walk_at "sl") => `(tactic| first | exact sl_S (by walk_at "sz") | exact sl_L | exact sl_T)
local macro_rules | `(tactic| walk_at "rg") => `(tactic| omega)
local macro_rules | `(tactic| walk_at "asc") => `(tactic| first | assumption | exact HexL.asc (by assumption))
local macro_rules | `(tactic| walk_at "sd") => `(tactic| first | exact sd_tup (by rfl) | exact sd_lst (by rfl) | exact sd_tup (at_nn (by decide) (by rfl)) | exact sd_lst (at_nn (by decide) (by rfl)))
local macro_rules | `(tactic| walk_at "call is_integer") => `(tactic| exact .mk)
local macro_rules | `(tactic| walk_at "call are_faults") => `(tactic| exact .mk (by assumption))
theorem all_f {α β : Type} (l : List α) (h : α → β) : (l.filter fun _ => true).map h = l.map h := by rw [List.filter_eq_self.mpr fun _ _ => rfl]
theorem pd1 {x1 : SD} : putD 1 x1 [] = [none, some x1] := rfl
theorem pd2 {x1 x7 : SD} : putD 7 x7 [none, some x1] = [none, some x1, none, none, none, none, none, some x7] := rfl
theorem pd3 {x1 x5 x7 : SD} : putD 5 x5 [none, some x1, none, none, none, none, none, some x7] = [none, some x1, none, none, none, some x5, none, some x7] := rfl
theorem pd4 {x1 x2 x5 x7 : SD} : putD 2 x2 [none, some x1, none, none, none, some x5, none, some x7] = [none, some x1, some x2, none, none, some x5, none, some x7] := rfl
theorem pd5 {x1 x2 x5 x7 x8 : SD} : putD 8 x8 [none, some x1, some x2, none, none, some x5, none, some x7] = [none, some x1, some x2, none, none, some x5, none, some x7, some x8] := rfl
theorem pd6 {x0 x1 x2 x5 x7 x8 : SD} : putD 0 x0 [none, some x1, some x2, none, none, some x5, none, some x7, some x8] = [some x0, some x1, some x2, none, none, some x5, none, some x7, some x8] := rfl
theorem pd7 {x0 x1 x2 x5 x7 x8 x9 : SD} : putD 9 x9 [some x0, some x1, some x2, none, none, some x5, none, some x7, some x8] = [some x0, some x1, some x2, none, none, some x5, none, some x7, some x8, some x9] := rfl
theorem pd8 {x0 x1 x2 x4 x5 x7 x8 x9 : SD} : putD 4 x4 [some x0, some x1, some x2, none, none, some x5, none, some x7, some x8, some x9] = [some x0, some x1, some x2, none, some x4, some x5, none, some x7, some x8, some x9] := rfl
theorem pd9 {x0 x1 x2 x3 x4 x5 x7 x8 x9 : SD} : putD 3 x3 [some x0, some x1, some x2, none, some x4, some x5, none, some x7, some x8, some x9] = [some x0, some x1, some x2, some x3, some x4, some x5, none, some x7, some x8, some x9] := rfl
theorem pd10 {x0 x1 x2 x3 x4 x5 x6 x7 x8 x9 : SD} : putD 6 x6 [some x0, some x1, some x2, some x3, some x4, some x5, none, some x7, some x8, some x9] = [some x0, some x1, some x2, some x3, some x4, some x5, some x6, some x7, some x8, some x9] := rfl
section
variable {P : Program} {w : World} {K : PySem.W.Frag} {mg : Str → Option Value} {base : Heap}
abbrev m0C (C a dx : Addr) : MS := [(a, .ho (.ins C dx [])), (dx, .ho (.own a))]
inductive F_Chip___init__ (T : Tx P K mg) : FTX
  | mk {a dx : Addr} {bl pg fs : PyData} {Pp : SD → MS → Prop} {R : RF} (hg : gdB fs = true) (h1 : intB 4 64 bl = false → R T.e_BadSize (.py bl) (m0C T.o_Chip a dx)) (h2 : intB 4 64 bl = true → intB 4 16 pg = false → R T.e_BadSize (.py pg) (m0C T.o_Chip a dx))
      (h3 : intB 4 64 bl = true → intB 4 16 pg = true → faultsB fs = false → R T.e_BadFaults (.py fs) (m0C T.o_Chip a dx))
      (h : intB 4 64 bl = true → intB 4 16 pg = true → faultsB fs = true → ∀ A : CA, A.a = a → Pp N0 (chM T.o_Chip A (newC (toI bl) (toI pg) fs))) : F_Chip___init__ T [.raw (.ref a), .py bl, .py pg, .py fs] (m0C T.o_Chip a dx) Pp R
theorem ok_Chip___init__ (T : Tx P K mg) : FnG P w K mg base (L2.CX P w) 15 T.a_Chip___init__ T.d_Chip___init__ ["self", "blocks", "pages", "faults"] (SpX K (F_Chip___init__ T)) := by
  refine fnX_okA T.F_Chip___init__ sc_Chip___init__ (fun xs m Pp Rr h => by cases h <;> rfl) (fun cdv A outer s H E hcd rm xs m Pp Rr hF => ?_)
  cases hF with | @mk a dx bl pg fs Pp Rr hg h1 h2 h3 h =>
  cases e1 : intB 4 64 bl with
  | false => exact xss_cons (xs_ife (k := true) (ET.is (et_not (et_val (eg_call (ok_is_integer T) (rm.mono (by decide)) T.m_is_integer T.F_is_integer.kp T.b_is_integer (ea_cons (ee_var (i := 1) rfl) (ea_cons (ee_gint T.c_LEAST_BLOCKS) (ea_cons (ee_gint T.c_MOST_BLOCKS) ea_nil))) (by walk_at "call is_integer")))) (by rw [e1]; rfl)) (fun _ => xss_one (xs_raise T.TD T.T_BadSize T.m_BadSize rm.r rfl (EE.to (ee_var (i := 1) rfl) (h1 e1)))) fun z => nomatch z)
  | true =>
  refine xss_cons (xs_ife (k := false) (ET.is (et_not (et_val (eg_call (ok_is_integer T) (rm.mono (by decide)) T.m_is_integer T.F_is_integer.kp T.b_is_integer (ea_cons (ee_var (i := 1) rfl) (ea_cons (ee_gint T.c_LEAST_BLOCKS) (ea_cons (ee_gint T.c_MOST_BLOCKS) ea_nil))) (by walk_at "call is_integer")))) (by rw [e1]; rfl)) (fun z => nomatch z) fun _ => xss_nil ?_)
  cases e2 : intB 4 16 pg with
  | false => exact xss_cons (xs_ife (k := true) (ET.is (et_not (et_val (eg_call (ok_is_integer T) (rm.mono (by decide)) T.m_is_integer T.F_is_integer.kp T.b_is_integer (ea_cons (ee_var (i := 2) rfl) (ea_cons (ee_gint T.c_LEAST_PAGES) (ea_cons (ee_gint T.c_MOST_PAGES) ea_nil))) (by walk_at "call is_integer")))) (by rw [e2]; rfl)) (fun _ => xss_one (xs_raise T.TD T.T_BadSize T.m_BadSize rm.r rfl (EE.to (ee_var (i := 2) rfl) (h2 e1 e2)))) fun z => nomatch z)
  | true =>
  refine xss_cons (xs_ife (k := false) (ET.is (et_not (et_val (eg_call (ok_is_integer T) (rm.mono (by decide)) T.m_is_integer T.F_is_integer.kp T.b_is_integer (ea_cons (ee_var (i := 2) rfl) (ea_cons (ee_gint T.c_LEAST_PAGES) (ea_cons (ee_gint T.c_MOST_PAGES) ea_nil))) (by walk_at "call is_integer")))) (by rw [e2]; rfl)) (fun z => nomatch z) fun _ => xss_nil ?_)
  cases e3 : faultsB fs with
  | false => exact xss_cons (xs_ife (k := true) (ET.is (et_not (et_val (eg_call (ok_are_faults T) (rm.mono (by decide)) T.m_are_faults T.F_are_faults.kp T.b_are_faults (ea_cons (ee_var (i := 3) rfl) ea_nil) (by walk_at "call are_faults")))) (by rw [e3]; rfl)) (fun _ => xss_one (xs_raise T.TD T.T_BadFaults T.m_BadFaults rm.r rfl (EE.to (ee_var (i := 3) rfl) (h3 e1 e2 e3)))) fun z => nomatch z)
  | true =>
  refine xss_cons (xs_ife (k := false) (ET.is (et_not (et_val (eg_call (ok_are_faults T) (rm.mono (by decide)) T.m_are_faults T.F_are_faults.kp T.b_are_faults (ea_cons (ee_var (i := 3) rfl) ea_nil) (by walk_at "call are_faults")))) (by rw [e3]; rfl)) (fun z => nomatch z) fun _ => xss_nil ?_)
  have h := h e1 e2 e3
  obtain ⟨bl, rfl, b1, b2⟩ := intB_of e1
  obtain ⟨pg, rfl, b3, b4⟩ := intB_of e2
  obtain ⟨l, rfl⟩ : ∃ l, fs = .tuple l := by cases fs with
    | tuple l => exact ⟨l, rfl⟩
    | _ => cases e3
  have hall : l.all faultB = true := by
    have : (l.all faultB && ascI (l.map ftI)) = true := e3
    rw [Bool.and_eq_true] at this
    exact this.1
  have hnd := flL_nd e3
  have hlen := (gd_tup hg).1
  have hfl : (flL (.tuple l)).length = l.length := by unfold flL; rw [List.length_map]
  have hP := flL_P hall
  refine xss_nd fun nd0 => ?_
  have nd1 : (a :: [dx]).Nodup := nd0
  refine xss_cons (xs_of (ws_asg (EE.to (ee_tup (eap_cons (ee_var (i := 1) rfl) (eap_cons (ee_var (i := 2) rfl) eap_nil))) (wg_tup (wgs_cons (wg_sl0 (ee_var (i := 0) rfl) T.S_Chip T.s_Chip_own_blocks (wgs_cons (wg_sl (ee_var (i := 0) rfl) T.S_Chip T.s_Chip_own_pages (wgs_nil ?_)))))))))
  rw [pd1, pd2]
  refine xss_cons (xs_of (ws_asg (js := []) (we_dictPr (l := (flL (.tuple l)).map fvP) (we_lcG (flL (.tuple l)) (fun q => Tp [.int q.1, tx q.2.1, tx q.2.2]) (fun _ => true) (fun q => .tuple [.int q.1, .tuple [tx q.2.1, tx q.2.2]]) (fun q ds => ((ds.set 4 (some (I q.1))).set 5 (some (S q.2.1))).set 6 (some (S q.2.2))) [("at", 4), ("word", 5), ("pattern", 6)] rfl sc_Chip___init__.nd
      (EI.to (ei_tup (ee_var (i := 3) rfl)) ⟨by rw [hP, List.map_map]; rw [← hP]; rfl, rfl⟩) (by omega)
      (fun q _ s H Ce cl fp ds m Q hq => wg_tup (wgs_cons (wg_name (wgs_cons (wg_name (wgs_cons (wg_name (wgs_nil hq) sc_Chip___init__.nd)) sc_Chip___init__.nd)) sc_Chip___init__.nd)))
      (fun q _ s H Ce cl fp Q hq => wts_nil hq) (fun q _ _ s H Ce cl fp Q hq => EE.to (ee_tup (eap_cons (ee_var (i := 4) rfl) (eap_cons (ee_tup (eap_cons (ee_var (i := 5) rfl) (eap_cons (ee_var (i := 6) rfl) eap_nil))) eap_nil))) hq) (blkOk_by (by rfl)) ⟨by rw [all_f]; unfold prK; rw [List.map_map]; rfl, fun pf hpf => ?_⟩) rfl T.m_dict bo_dict)))
  rw [mrgK_nil (by rw [pyK_keys, fv_keys]; exact inl_nd hnd)]
  have nd2 : (pf :: a :: [dx]).Nodup := List.nodup_cons.mpr ⟨hpf, nd1⟩
  refine wg_slM (ee_var (i := 0) rfl) (List.mem_cons_of_mem _ List.mem_cons_self) (List.mem_cons_of_mem _ (List.mem_cons_of_mem _ List.mem_cons_self)) T.S_Chip T.s_Chip_own_faults ?_
  rw [mset_at (i := 1)]
  rotate_left
  · exact nd2
  · rfl
  rw [pd3]
  have hm1 : (-(2 ^ 64) < bl ∧ bl < 2 ^ 64) := by omega
  have hbp : 0 ≤ bl * pg ∧ bl * pg ≤ 1024 := ⟨Int.mul_nonneg (by omega) (by omega), by
    have z1 : bl * pg ≤ 64 * pg := Int.mul_le_mul_of_nonneg_right (by omega) (by omega)
    omega⟩
  refine xss_cons (xs_of (ws_asg (js := []) (we_lcOG (List.range (bl * pg).toNat) (fun (i : Nat) => I (i : Int)) (fun _ => true) (fun _ => tx emptyL) (fun i ds => ds.set 7 (some (I (i : Int)))) [("place", 7)] rfl sc_Chip___init__.nd
      (EI.to (ei_range1 (ee_bin (ee_var (i := 1) rfl) (ee_var (i := 2) rfl) (by walk_at "bd")) (by walk_at "rg") T.m_range) ⟨rfl, rfl⟩) (by rw [List.length_range]; omega) (fun q _ s H Ce cl fp ds m Q hq => wg_name hq sc_Chip___init__.nd) (fun q _ s H Ce cl fp Q hq => wts_nil hq) (fun q _ _ s H Ce cl fp Q hq => EE.to (ee_gstr T.c_EMPTY) hq) (blkOk_by (by rfl)) fun pc hpc => ?_)))
  have nd3 : (pc :: pf :: a :: [dx]).Nodup := List.nodup_cons.mpr ⟨hpc, nd2⟩
  refine wg_slM (ee_var (i := 0) rfl) (List.mem_cons_of_mem _ (List.mem_cons_of_mem _ List.mem_cons_self)) (List.mem_cons_of_mem _ (List.mem_cons_of_mem _ (List.mem_cons_of_mem _ List.mem_cons_self))) T.S_Chip T.s_Chip_own_cells ?_
  rw [mset_at (i := 2)]
  rotate_left
  · exact nd3
  · rfl
  rw [pd4]
  refine xss_cons (xs_of (ws_asg (js := []) (we_lcOG (List.range bl.toNat) (fun (i : Nat) => I (i : Int)) (fun _ => true) (fun _ => .int 0) (fun i ds => ds.set 8 (some (I (i : Int)))) [("block", 8)] rfl sc_Chip___init__.nd
      (EI.to (ei_range1 (ee_var (i := 1) rfl) (by walk_at "rg") T.m_range) ⟨rfl, rfl⟩) (by rw [List.length_range]; omega) (fun q _ s H Ce cl fp ds m Q hq => wg_name hq sc_Chip___init__.nd) (fun q _ s H Ce cl fp Q hq => wts_nil hq) (fun q _ _ s H Ce cl fp Q hq => EE.to ee_int hq) (blkOk_by (by rfl)) fun pw hpw => ?_)))
  have nd4 : (pw :: pc :: pf :: a :: [dx]).Nodup := List.nodup_cons.mpr ⟨hpw, nd3⟩
  refine wg_slM (ee_var (i := 0) rfl) (List.mem_cons_of_mem _ (List.mem_cons_of_mem _ (List.mem_cons_of_mem _ List.mem_cons_self))) (List.mem_cons_of_mem _ (List.mem_cons_of_mem _ (List.mem_cons_of_mem _ (List.mem_cons_of_mem _ List.mem_cons_self)))) T.S_Chip T.s_Chip_own_wear ?_
  rw [mset_at (i := 3)]
  rotate_left
  · exact nd4
  · rfl
  rw [pd5]
  refine xss_cons (xs_of (ws_asg (js := []) (we_tupS (wa_cons (we_dnew fun pb hpb => wa_cons (we_dnew fun pr hpr => wa_nil ⟨by show 2 ≤ 1000000; decide, ?_⟩))))))
  have nd5 : (pb :: pw :: pc :: pf :: a :: [dx]).Nodup := List.nodup_cons.mpr ⟨hpb, nd4⟩
  have nd6 : (pr :: pb :: pw :: pc :: pf :: a :: [dx]).Nodup := List.nodup_cons.mpr ⟨hpr, nd5⟩
  refine wg_tupS (wgs_cons (js := []) (ks := []) (wg_slM (ee_var (i := 0) rfl) (List.mem_cons_of_mem _ (List.mem_cons_of_mem _ (List.mem_cons_of_mem _ (List.mem_cons_of_mem _ (List.mem_cons_of_mem _ List.mem_cons_self))))) (List.mem_cons_of_mem _ (List.mem_cons_of_mem _ (List.mem_cons_of_mem _ (List.mem_cons_of_mem _ (List.mem_cons_of_mem _ (List.mem_cons_of_mem _ List.mem_cons_self)))))) T.S_Chip T.s_Chip_own_bad ?_))
  rw [mset_at (i := 5)]
  rotate_left
  · exact nd6
  · rfl
  rw [pd6]
  refine wgs_cons (js := []) (ks := []) (wg_slM (ee_var (i := 0) rfl) (List.mem_cons_of_mem _ (List.mem_cons_of_mem _ (List.mem_cons_of_mem _ (List.mem_cons_of_mem _ (List.mem_cons_of_mem _ List.mem_cons_self))))) (List.mem_cons_of_mem _ (List.mem_cons_of_mem _ (List.mem_cons_of_mem _ (List.mem_cons_of_mem _ (List.mem_cons_of_mem _ (List.mem_cons_of_mem _ List.mem_cons_self)))))) T.S_Chip T.s_Chip_own_written ?_)
  rw [mset_at (i := 5)]
  rotate_left
  · exact nd6
  · rfl
  rw [pd7]
  refine wgs_nil ?_
  rw [all_f, all_f, List.map_const', List.map_const', List.length_range, List.length_range]
  refine xss_perm (m' := [(a, _), (dx, _), (pc, OV.dl (List.replicate (bl * pg).toNat (tx emptyL))), (pw, OV.dl (List.replicate bl.toNat (.int 0))), (pb, OV.ds []), (pr, OV.ds []), (pf, OV.ds (pyK ((flL (.tuple l)).map fvP)))]) ((List.perm_append_comm (l₁ := [(pr, OV.ds []), (pb, OV.ds []), (pw, OV.dl (List.replicate bl.toNat (.int 0))), (pc, OV.dl (List.replicate (bl * pg).toNat (tx emptyL))), (pf, OV.ds (pyK ((flL (.tuple l)).map fvP)))]) (l₂ := [_, _])).trans (.cons _ (.cons _ ((List.reverse_perm [(pc, OV.dl (List.replicate (bl * pg).toNat (tx emptyL))), (pw, OV.dl (List.replicate bl.toNat (.int 0))), (pb, OV.ds []), (pr, OV.ds [])]).append_right [_])))) ?_
  refine xss_one (xs_of (ws_asg (EE.to (ee_tup (eap_cons ee_int (eap_cons ee_int (eap_cons ee_bl eap_nil)))) (wg_tup (wgs_cons (wg_sl (ee_var (i := 0) rfl) T.S_Chip T.s_Chip_own_done (wgs_cons (wg_sl (ee_var (i := 0) rfl) T.S_Chip T.s_Chip_own_cuts (wgs_cons (wg_sl (ee_var (i := 0) rfl) T.S_Chip T.s_Chip_own_is_on (wgs_nil ?_)))))))))))
  have h : Pp N0 (chM T.o_Chip ⟨a, dx, pc, pw, pb, pr, pf⟩ (newC bl pg (.tuple l))) := h ⟨a, dx, pc, pw, pb, pr, pf⟩ rfl
  have e1 : txts (List.replicate (bl * pg).toNat emptyL) = List.replicate (bl * pg).toNat (tx emptyL) := by unfold txts; rw [List.map_replicate]
  have e2 : (List.replicate bl.toNat (0 : Int)).map PyData.int = List.replicate bl.toNat (PyData.int 0) := by rw [List.map_replicate]
  unfold newC chM Chp.sl Chp.rest InsM at h
  dsimp only at h
  rw [e1, e2] at h
  rw [pd8, pd9, pd10]
  exact h
end
end K15
end W9
namespace W9
namespace K15
open PySem PySem.Spec PyProof.Rows L2
local macro_rules | `(tactic| walk_at "sz") => `(tactic| first | assumption | omega | decide | (simp only [List.length_append, List.length_map, List.length_zipIdx, List.length_cons, List.length_nil, List.length_replicate, List.length_range, List.length_zip, List.length_take, List.length_drop]; omega) | (simp; omega) | (simp; done))
local macro_rules | `(tactic| walk_at "bd") => `(tactic| first | exact bd_add | exact bd_sub | exact bd_mul (by omega) | exact bd_mod (by omega) | exact bd_mod (by decide +kernel) | exact bd_pow (by omega) | exact bd_powX (by decide +kernel) | exact bd_div (by omega) | exact bd_addS (by walk_at "sz") | exact bd_mulS (by walk_at "sz") | exact bd_catL (by walk_at "sz"))
local macro_rules | `(tactic| walk_at "cd") => `(tactic| first | exact cd_lt | exact cd_le | exact cd_gt | exact cd_ge | exact cd_eq | exact cd_ne | exact cd_isN | exact cd_notN | exact cd_eqS | exact cd_neS | exact cd_ltS | exact cd_inS | exact cd_notinS | exact cd_inTs (Rm.mono (by assumption) (by decide)) (by assumption) (by assumption) | exact cd_notinTs | exact cd_eqT | exact cd_neT | exact cd_notinI (Rm.mono (by assumption) (by decide)))
local macro_rules | `(tactic| walk_at "ca") => `(tactic| first | exact ca_isiD (by simp) | exact ca_lenS (by walk_at "sz") | exact ca_lenL | exact ca_lenT | exact ca_allm rfl | exact ca_int | exact ca_intB | exact ca_abs | exact ca_max2 rfl | exact ca_min2 rfl | exact ca_sum rfl | exact ca_tupL | exact ca_listL | exact ca_listT | exact ca_maxS rfl | exact ca_listS rfl (by walk_at "sz"))
local macro_rules | `(tactic| walk_at "sl") => `(tactic| first | exact sl_S (by walk_at "sz") | exact sl_L | exact sl_T)
local macro_rules | `(tactic| walk_at "rg") => `(tactic| omega)
local macro_rules | `(tactic| walk_at "asc") => `(tactic| first | assumption | exact HexL.asc (by assumption))
local macro_rules | `(tactic| walk_at "sd") => `(tactic| first | exact sd_tup (by rfl) | exact sd_lst (by rfl) | exact sd_tup (at_nn (by decide) (by rfl)) | exact sd_lst (at_nn (by decide) (by rfl)))
local macro_rules | `(tactic| walk_at "call _law_chip_is_cells") => `(tactic| exact .mk (by assumption))
theorem not3 {k : List PyData} (h : k.length ≠ 3) : faultB (.tuple k) = false := by
  match k, h with
  | [], _ => rfl
  | [_], _ => rfl
  | [_, _], _ => rfl
  | [_, _, _], h => exact absurd rfl h
  | _ :: _ :: _ :: _ :: _, _ => rfl
section
variable {P : Program} {w : World} {K : PySem.W.Frag} {mg : Str → Option Value} {base : Heap}
theorem ok__law_chip_are_faults (T : Tx P K mg) : FnG P w K mg base CX0 6 T.a__law_chip_are_faults T.d__law_chip_are_faults ["value"] (SpD K (pureF R__law_chip_are_faults)) := by
  refine fnD_okA (W9.Fun.toA T.F__law_chip_are_faults) sc__law_chip_are_faults (fun xs m Pp ⟨d, h, _⟩ => by cases h <;> rfl) (fun cdv A outer s H E hcd rm xs m Pp ⟨d, hR, hp⟩ => ?_)
  cases hR with | @mk d hd =>
  have nd := sc__law_chip_are_faults.nd
  cases d with
  | tuple l =>
    have gl := gd_tup hd
    have hlen := gl.1
    have hp : Pp (B (l.all faultB && ascI (l.map ftI))) m := hp
    refine wss_cons (ws_ife (k := false) (ET.is (et_not (et_val (ee_callB (ea_cons (ee_var (i := 0) rfl) (ea_cons (ee_blt (v := .ty "tuple") T.m_tuple bo_tuple rfl) ea_nil)) (fun m => by walk_at "ca") T.m_isinstance bo_isinstance))) (by rfl)) (fun z => nomatch z) fun _ => wss_nil ?_)
    refine wss_cons (ws_for (js := [1]) (((ei_tup (ee_var (i := 0) rfl))).to ⟨fun i ds1 m1 => (∃ y, ds1 = [some (Tp l), y, none]) ∧ m1 = m ∧ (l.take i).all faultB = true, ⟨⟨_, rfl⟩, rfl, rfl⟩, ?_, ?_⟩))
    · rintro i x ds1 m1 hx ⟨⟨y, rfl⟩, hm, hal⟩
      rw [hm]
      obtain ⟨d, hdi, rfl⟩ := map_get hx
      have gd := gl.2 d (List.mem_of_getElem? hdi)
      refine wg_name ?_ nd
      have bad : faultB d = false → Pp (B false) m := fun z => by
        have e : l.all faultB = false := by
          rw [Bool.eq_false_iff]
          intro q
          rw [List.all_eq_true.mp q d (List.mem_of_getElem? hdi)] at z
          cases z
        rw [e] at hp
        exact hp
      have good : faultB d = true → (l.take (i + 1)).all faultB = true := fun z => by
        rw [List.take_succ, hdi, List.all_append, hal]
        simp [z]
      cases d with
      | tuple k =>
        by_cases h3 : k.length = 3
        · obtain ⟨a, b, c, rfl⟩ : ∃ a b c, k = [a, b, c] := by
            match k, h3 with
            | [a, b, c], _ => exact ⟨a, b, c, rfl⟩
          have ga := (gd_tup gd).2
          have g1 := ga b (by simp)
          have g2 := ga c (by simp)
          have fe : faultB (.tuple [a, b, c]) = (oneB a && (wordB b && cellsB 1 256 c)) := rfl
          rw [fe] at bad good
          refine wss_cons (ws_ife (k := !isTy "str" b) (ET.is (et_w (ew_or (et_not (et_val (ee_callB (ea_cons (ee_var (i := 1) rfl) (ea_cons (ee_blt (v := .ty "tuple") T.m_tuple bo_tuple rfl) ea_nil)) (fun m => by walk_at "ca") T.m_isinstance bo_isinstance))) fun _ => ew_or (et_cmp (ee_callB (ea_cons (ee_var (i := 1) rfl) ea_nil) (fun m => by walk_at "ca") T.m_len bo_len) ee_int cd_ne) fun _ => ew_or1 (et_not (et_val (ee_callB (ea_cons (ee_sub (ee_var (i := 1) rfl) ee_int (fun m => by walk_at "sd")) (ea_cons (ee_blt (v := .ty "str") T.m_str bo_str rfl) ea_nil)) (fun m => by walk_at "ca") T.m_isinstance bo_isinstance))))) (by cases isTy "str" b <;> rfl)) (fun hk => ?_) fun hk => wss_nil ?_)
          · refine wss_one (ws_retE ee_bl (bad ?_))
            cases b with
            | str x => cases hk
            | _ => cases oneB a <;> rfl
          · cases b with
            | str x =>
              have gs := (gd_str g1).2
              refine wss_cons (ws_ife (k := !oneB a) ?_ (fun hk => wss_one (ws_retE ee_bl (bad (by rw [not_t hk]; rfl)))) fun hk => wss_nil ?_)
              · cases a with
                | int i => exact ET.is (et_w (ew_or (et_not (et_val (ee_callB (ea_cons (ee_sub (ee_var (i := 1) rfl) ee_int (fun m => by walk_at "sd")) (ea_cons (ee_blt (v := .ty "int") T.m_int bo_int rfl) ea_nil)) (fun m => by walk_at "ca") T.m_isinstance bo_isinstance))) fun _ => ew_or (et_val (ee_callB (ea_cons (ee_sub (ee_var (i := 1) rfl) ee_int (fun m => by walk_at "sd")) (ea_cons (ee_blt (v := .ty "bool") T.m_bool bo_bool rfl) ea_nil)) (fun m => by walk_at "ca") T.m_isinstance bo_isinstance)) fun _ => ew_or1 (et_cmp (ee_sub (ee_var (i := 1) rfl) ee_int (fun m => by walk_at "sd")) ee_int (by walk_at "cd")))) (by
                    show decide (i < 1) = !decide (1 ≤ i)
                    by_cases z : i < 1
                    · rw [decide_eq_true z, decide_eq_false (by omega)]; rfl
                    · rw [decide_eq_false z, decide_eq_true (by omega)]; rfl)
                | bool v => exact et_w (ew_or (k := false) (ET.is (et_not (et_val (ee_callB (ea_cons (ee_sub (ee_var (i := 1) rfl) ee_int (fun m => by walk_at "sd")) (ea_cons (ee_blt (v := .ty "int") T.m_int bo_int rfl) ea_nil)) (fun m => by walk_at "ca") T.m_isinstance bo_isinstance))) (by rfl)) fun _ => ew_orT (ET.is (et_val (ee_callB (ea_cons (ee_sub (ee_var (i := 1) rfl) ee_int (fun m => by walk_at "sd")) (ea_cons (ee_blt (v := .ty "bool") T.m_bool bo_bool rfl) ea_nil)) (fun m => by walk_at "ca") T.m_isinstance bo_isinstance)) (by rfl)))
                | _ => exact et_w (ew_orT (ET.is (et_not (et_val (ee_callB (ea_cons (ee_sub (ee_var (i := 1) rfl) ee_int (fun m => by walk_at "sd")) (ea_cons (ee_blt (v := .ty "int") T.m_int bo_int rfl) ea_nil)) (fun m => by walk_at "ca") T.m_isinstance bo_isinstance))) (by rfl)))
              · have h1 := not_f hk
                rw [h1] at bad good
                rw [str_eta x] at bad good ⊢
                rw [wordB_S] at bad good
                generalize x.cps.toList = u at bad good gs ⊢
                refine wss_one (ws_ife (k := !decide (u ∈ [cutL, badL]) || !cellsB 1 256 c) (et_w (ew_or (et_cmp (ee_sub (ee_var (i := 1) rfl) ee_int (fun m => by walk_at "sd")) (ee_tup (eap_cons (ee_strS (l := [99, 117, 116])) (eap_cons (ee_strS (l := [98, 97, 100])) eap_nil))) (cd_notinTs (w := u) (ws := [cutL, badL]))) fun _ => ew_or1 (et_not (et_val (eg_call (ok__law_chip_is_cells T) (rm.mono (by decide)) T.m__law_chip_is_cells T.F__law_chip_is_cells.kp T.b__law_chip_is_cells (ea_cons (ee_sub (ee_var (i := 1) rfl) ee_int (fun m => by walk_at "sd")) (ea_cons ee_int (ea_cons ee_int ea_nil))) (by walk_at "call _law_chip_is_cells")))))) (fun hk => wss_one (ws_retE ee_bl (bad ?_))) fun hk => wss_nil ⟨⟨_, rfl⟩, rfl, good ?_⟩)
                · revert hk
                  cases decide (u ∈ [cutL, badL]) <;> cases cellsB 1 256 c <;> simp
                · revert hk
                  cases decide (u ∈ [cutL, badL]) <;> cases cellsB 1 256 c <;> simp
            | _ => cases hk
        · refine wss_cons (ws_ife (k := true) (et_w (ew_or (k := false) (ET.is (et_not (et_val (ee_callB (ea_cons (ee_var (i := 1) rfl) (ea_cons (ee_blt (v := .ty "tuple") T.m_tuple bo_tuple rfl) ea_nil)) (fun m => by walk_at "ca") T.m_isinstance bo_isinstance))) (by rfl)) fun _ => ew_orT (ET.is (et_cmp (ee_callB (ea_cons (ee_var (i := 1) rfl) ea_nil) (fun m => by walk_at "ca") T.m_len bo_len) ee_int cd_ne) (by rw [decide_eq_false (by omega)]; rfl)))) (fun _ => wss_one (ws_retE ee_bl (bad (not3 h3)))) fun z => nomatch z)
      | _ => exact wss_cons (ws_ife (k := true) (et_w (ew_orT (ET.is (et_not (et_val (ee_callB (ea_cons (ee_var (i := 1) rfl) (ea_cons (ee_blt (v := .ty "tuple") T.m_tuple bo_tuple rfl) ea_nil)) (fun m => by walk_at "ca") T.m_isinstance bo_isinstance))) (by rfl)))) (fun _ => wss_one (ws_retE ee_bl (bad rfl))) fun z => nomatch z)
    · rintro ds1 m1 ⟨⟨y, rfl⟩, hm, hal⟩
      rw [hm]
      rw [List.length_map, List.take_length] at hal
      rw [hal] at hp
      have hall := List.all_eq_true.mp hal
      refine wss_cons (ws_setLcG (i := 2) l (fun d => .py d) (fun _ => true) (fun d => .int (ftI d)) (fun d ds => ds.set 1 (some (.py d))) [("fault", 1)] rfl nd (EI.to (ei_tup (ee_var (i := 0) rfl)) ⟨rfl, rfl⟩) (by omega) (fun d _ s H Ce cl fp ds m Q hq => wg_name hq nd) (fun d _ s H Ce cl fp Q hq => wts_nil hq) (fun d hd _ s H Ce cl fp Q hq => ?_) (blkOk_by (by rfl)) ?_)
      · obtain ⟨j, w1, c1, e1, _⟩ := faultB_three (hall d hd)
        rw [e1] at hq ⊢
        exact EE.to (ee_sub (ee_var (i := 1) rfl) ee_int (fun m => by walk_at "sd")) hq
      · rw [List.filter_eq_self.mpr (fun _ _ => rfl), show l.map (fun d => PyData.int (ftI d)) = (l.map ftI).map .int from by rw [List.map_map]; rfl]
        refine wss_one (ws_ret (we_cmp (EE.to (ee_var (i := 2) rfl) (we_sortsetI (ee_var (i := 2) rfl) (by rw [List.length_map]; omega) (fun r hr hm2 => ⟨_, cd_eqD (rm.mono (by decide)) sh_ints sh_ints, ?_⟩) T.m_sorted T.m_set))))
        have e : PyData.eqv (.list ((l.map ftI).map .int)) (.list (r.map .int)) = ascI (l.map ftI) := by
          unfold PyData.eqv
          rw [eqv_ints]
          exact Bool.eq_iff_iff.mpr (by rw [decide_eq_true_eq]; exact srt_asc hr hm2)
        rw [e]
        exact hp
  | _ => exact wss_cons (ws_ife (k := true) (ET.is (et_not (et_val (ee_callB (ea_cons (ee_var (i := 0) rfl) (ea_cons (ee_blt (v := .ty "tuple") T.m_tuple bo_tuple rfl) ea_nil)) (fun m => by walk_at "ca") T.m_isinstance bo_isinstance))) (by rfl)) (fun _ => wss_one (ws_retE ee_bl hp)) fun z => by cases z)
end
end K15
end W9
namespace W9
namespace K15
open PySem PySem.Spec PyProof.Rows L2
local macro_rules | `(tactic| walk_at "sz") => `(tactic| first | assumption | omega | decide | (simp only [List.length_append, List.length_map, List.length_zipIdx, List.length_cons, List.length_nil, List.length_replicate, List.length_range, List.length_zip, List.length_take, List.length_drop]; omega) | (simp; omega) | (simp; done))
local macro_rules | `(tactic| walk_at "bd") => `(tactic| first | exact bd_add | exact bd_sub | exact bd_mul (by omega) | exact bd_mod (by omega) | exact bd_mod (by decide +kernel) | exact bd_pow (by omega) | exact bd_powX (by decide +kernel) | exact bd_div (by omega) | exact bd_addS (by walk_at "sz") | exact bd_mulS (by walk_at "sz") | exact bd_catL (by walk_at "sz"))
local macro_rules | `(tactic| walk_at "cd") => `(tactic| first | exact cd_lt | exact cd_le | exact cd_gt | exact cd_ge | exact cd_eq | exact cd_ne | exact cd_isN | exact cd_notN | exact cd_eqS | exact cd_neS | exact cd_ltS | exact cd_inS | exact cd_notinS | exact cd_inTs (Rm.mono (by assumption) (by decide)) (by assumption) (by assumption) | exact cd_notinTs | exact cd_eqT | exact cd_neT | exact cd_notinI (Rm.mono (by assumption) (by decide)))
local macro_rules | `(tactic| walk_at "ca") => `(tactic| first | exact ca_isiD (by simp) | exact ca_lenS (by walk_at "sz") | exact ca_lenL | exact ca_lenT | exact ca_allm rfl | exact ca_int | exact ca_intB | exact ca_abs | exact ca_max2 rfl | exact ca_min2 rfl | exact ca_sum rfl | exact ca_tupL | exact ca_listL | exact ca_listT | exact ca_maxS rfl | exact ca_listS rfl (by walk_at "sz"))
local macro_rules | `(tactic| walk_at "sl") => `(tactic| first | exact sl_S (by walk_at "sz") | exact sl_L | exact sl_T)
local macro_rules | `(tactic| walk_at "rg") => `(tactic| omega)
local macro_rules | `(tactic| walk_at "asc") => `(tactic| first | assumption | exact HexL.asc (by assumption))
local macro_rules | `(tactic| walk_at "sd") => `(tactic| first | exact sd_tup (by rfl) | exact sd_lst (by rfl) | exact sd_tup (at_nn (by decide) (by rfl)) | exact sd_lst (at_nn (by decide) (by rfl)))
local macro_rules | `(tactic| walk_at "sd") => `(tactic| first | exact sd_tup (by rfl) | exact sd_lst (by rfl) | exact sd_tup (at_nn (by decide) (by rfl)) | exact sd_ints (l := [2147483647, 2147483629, 2147483587, 2147483579, 2147483563]) (by omega) (by simp only [List.length_cons, List.length_nil]; omega) | exact sd_lst (at_nn (by decide) (by rfl)))
inductive F__law_take : FT
  | mk {p : Addr} {a b c n : Int} {m : MS} {P : SD → MS → Prop} (ha : 0 ≤ a) (hb : PB b) (hc : 0 ≤ c ∧ c ≤ 100000) (hn : 0 < n ∧ n < 1073741824) (hpf : p ∉ ad m)
      (h : ∀ d a' c' : Int, (0 ≤ d ∧ d < n) → 0 ≤ a' → (0 ≤ c' ∧ c' ≤ c + 1) → P (I d) (Pt p a' b c' :: m)) : F__law_take [.raw (.ref p), I n] (Pt p a b c :: m) P
inductive F__law_of : FT
  | mk {p : Addr} {a b c : Int} {l : List PyData} {m : MS} {P : SD → MS → Prop} (ha : 0 ≤ a) (hb : PB b) (hc : 0 ≤ c ∧ c ≤ 100000) (hl : 0 < l.length ∧ l.length < 1000000) (hpf : p ∉ ad m)
      (h : ∀ (d : PyData) (a' c' : Int), d ∈ l → 0 ≤ a' → (0 ≤ c' ∧ c' ≤ c + 1) → P (.py d) (Pt p a' b c' :: m)) : F__law_of [.raw (.ref p), Ls l] (Pt p a b c :: m) P
inductive F__law_pot : FT
  | mk {ns : List Int} {k : Nat} {m : MS} {P : SD → MS → Prop} (hl : ns.length ≤ 63) (hk : k ≤ 1000) (h : ∀ (p : Addr) (a b : Int), p ∉ ad m → 0 ≤ a → PB b → P (.raw (.ref p)) (Pt p a b 0 :: m)) : F__law_pot [Ls (ns.map .int), I k] m P
section
variable {P : Program} {w : World} {K : PySem.W.Frag} {mg : Str → Option Value} {base : Heap}
theorem ok__law_take (T : Tx P K mg) : FnG P w K mg base CX0 3 T.a__law_take T.d__law_take ["pot", "upto"] (SpD K F__law_take) := by
  refine fnD_okA (W9.Fun.toA T.F__law_take) sc__law_take (fun xs m Pp h => by cases h <;> rfl) (fun cdv A outer s H E hcd rm xs m Pp hF => ?_)
  cases hF with | @mk p a b c n m Pp ha hb hc hn hpf h =>
  refine wss_cons (ws_if (wt_view (i := 0) (l := [.int a, .int b, .int c]) rfl List.mem_cons_self (et_cmp (ee_sub (ee_var (i := 0) rfl) ee_int (fun m => by walk_at "sd")) ee_int (by walk_at "cd")) ?_))
  by_cases hpos : 0 < a
  · rw [if_pos (decide_eq_true hpos)]
    refine wss_cons (ws_set (i := 2) sc__law_take.nd (we_view (i := 0) (l := [.int a, .int b, .int c]) rfl List.mem_cons_self (ee_bin (ee_callTy (ea_cons (ee_sub (ee_var (i := 0) rfl) ee_int (fun m => by walk_at "sd")) ea_nil) (fun m => by walk_at "ca") T.m_int bo_int) (ee_var (i := 1) rfl) (by walk_at "bd")) sc_int ?_))
    refine wss_cons (ws_storeV (i := 0) (l := [.int a, .int b, .int c]) (j := 0) hpf rfl (ee_var (i := 0) rfl) ee_int (ee_bin (ee_sub (ee_var (i := 0) rfl) ee_int (fun m => by walk_at "sd")) (ee_var (i := 1) rfl) (by walk_at "bd")) sc_int (by decide) (by simp) ?_)
    exact wss_one (ws_retE (ee_var (i := 2) rfl) (h _ _ _ ⟨Int.emod_nonneg _ (by omega), Int.emod_lt_of_pos _ hn.1⟩ (Int.ediv_nonneg ha (by omega)) ⟨hc.1, by omega⟩))
  · rw [if_neg (by rw [decide_eq_true_eq]; exact hpos)]
    refine wss_nil (wss_cons (ws_storeV (i := 0) (l := [.int a, .int b, .int c]) (j := 2) hpf rfl (ee_var (i := 0) rfl) ee_int (ee_bin (ee_sub (ee_var (i := 0) rfl) ee_int (fun m => by walk_at "sd")) ee_int (by walk_at "bd")) sc_int (by decide) (by simp) ?_))
    refine wss_cons (ws_set (i := 3) sc__law_take.nd (we_view (i := 0) (l := [.int a, .int b, .int (c + 1)]) rfl List.mem_cons_self (ee_sub (ee_lst (eap_cons ee_int (eap_cons ee_int (eap_cons ee_int (eap_cons ee_int (eap_cons ee_int eap_nil)))))) (ee_bin (ee_callTy (ea_cons (ee_sub (ee_var (i := 0) rfl) ee_int (fun m => by walk_at "sd")) ea_nil) (fun m => by walk_at "ca") T.m_int bo_int) ee_int (by walk_at "bd")) (fun m => by walk_at "sd")) sc_int ?_))
    have hpr := prs_pos (c + 1)
    generalize prs.getD ((c + 1) % 5).toNat 0 = pr at *
    have hq := sq_le (k := 99858) (c := c + 1) (by decide) (by omega)
    obtain ⟨hb1, hb2⟩ := id hb
    refine wss_cons (ws_set (i := 4) sc__law_take.nd (we_view (i := 0) (l := [.int a, .int b, .int (c + 1)]) rfl List.mem_cons_self (ee_bin (ee_callTy (ea_cons (ee_bin (ee_callTy (ea_cons (ee_bin (ee_bin (ee_sub (ee_var (i := 0) rfl) ee_int (fun m => by walk_at "sd")) (ee_bin (ee_bin ee_int (ee_sub (ee_var (i := 0) rfl) ee_int (fun m => by walk_at "sd")) (by walk_at "bd")) (ee_sub (ee_var (i := 0) rfl) ee_int (fun m => by walk_at "sd")) (by walk_at "bd")) (by walk_at "bd")) ee_int (by walk_at "bd")) ea_nil) (fun m => by walk_at "ca") T.m_int bo_int) ee_int (by walk_at "bd")) ea_nil) (fun m => by walk_at "ca") T.m_int bo_int) (ee_var (i := 3) rfl) (by walk_at "bd")) sc_int ?_))
    generalize hbl : _ % pr = bl
    have hbl1 : 0 ≤ bl := by rw [← hbl]; exact Int.emod_nonneg _ (by omega)
    have hbl2 : bl < pr := by rw [← hbl]; exact Int.emod_lt_of_pos _ hpr.1
    refine wss_cons (ws_set (i := 4) sc__law_take.nd (we_view (i := 0) (l := [.int a, .int b, .int (c + 1)]) rfl List.mem_cons_self (ee_bin (ee_callTy (ea_cons (ee_bin (ee_var (i := 4) rfl) (ee_bin (ee_bin (ee_callTy (ea_cons (ee_var (i := 4) rfl) ea_nil) (fun m => by walk_at "ca") T.m_int bo_int) ee_int (by walk_at "bd")) (ee_bin ee_int (ee_sub (ee_var (i := 0) rfl) ee_int (fun m => by walk_at "sd")) (by walk_at "bd")) (by walk_at "bd")) (by walk_at "bd")) ea_nil) (fun m => by walk_at "ca") T.m_int bo_int) ee_int (by walk_at "bd")) sc_int ?_))
    exact wss_one (ws_retE (ee_bin (ee_callTy (ea_cons (ee_bin (ee_var (i := 4) rfl) ee_int (by walk_at "bd")) ea_nil) (fun m => by walk_at "ca") T.m_int bo_int) (ee_var (i := 1) rfl) (by walk_at "bd")) (h _ _ _ ⟨Int.emod_nonneg _ (by omega), Int.emod_lt_of_pos _ hn.1⟩ ha ⟨by omega, by omega⟩))
theorem ok__law_of (T : Tx P K mg) : FnG P w K mg base CX0 6 T.a__law_of T.d__law_of ["pot", "some"] (SpD K F__law_of) := by
  refine fnD_okA (W9.Fun.toA T.F__law_of) sc__law_of (fun xs m Pp h => by cases h <;> rfl) (fun cdv A outer s H E hcd rm xs m Pp hF => ?_)
  cases hF with | @mk p a b c l m Pp ha hb hc hl hpf h =>
  exact wss_one (ws_ret (we_sub (EE.to (ee_var (i := 1) rfl) (wg_call (ok__law_take T) (rm.mono (by decide)) T.m__law_take T.F__law_take.kp T.b__law_take (EA.to (ea_cons (ee_var (i := 0) rfl) (ea_cons (ee_callB (ea_cons (ee_var (i := 1) rfl) ea_nil) (fun m => by walk_at "ca") T.m_len bo_len) ea_nil)) ⟨[], _, rfl, .mk ha hb hc ⟨by omega, by omega⟩ hpf fun d a' c' h1 h2 h3 => ⟨.py (l[d.toNat]'(by omega)), sd_lst (at_nn h1.1 (List.getElem?_eq_getElem _)), h _ _ _ (List.getElem_mem _) h2 h3⟩⟩)))))
theorem ok__law_pot (T : Tx P K mg) : FnG P w K mg base CX0 3 T.a__law_pot T.d__law_pot ["script", "place"] (SpD K F__law_pot) := by
  refine fnD_okA (W9.Fun.toA T.F__law_pot) sc__law_pot (fun xs m Pp h => by cases h <;> rfl) (fun cdv A outer s H E hcd rm xs m Pp hF => ?_)
  cases hF with | @mk ns k m Pp hl hk h =>
  refine wss_cons (ws_setE (i := 2) sc__law_pot.nd (d := I (if k < ns.length then ns.getD k 0 else (cut ns none (some 1)).sum % 1000003 + 1524 * (k : Int) + 786))
    (ee_if (et_cmp (ee_var (i := 1) rfl) (ee_callB (ea_cons (ee_var (i := 0) rfl) ea_nil) (fun m => by walk_at "ca") T.m_len bo_len) (by walk_at "cd")) (fun hh => ?_) (fun hh => ?_)) ?_)
  · have h1 : k < ns.length := by
      have := of_decide_eq_true hh
      rw [List.length_map] at this
      omega
    refine EE.is (ee_sub (EE.is (ee_var (i := 0) rfl) rfl) (ee_var (i := 1) rfl) (fun m => sd_ints (l := ns) (by omega) (by omega))) ?_
    rw [if_pos h1, Int.toNat_natCast]
  · have h1 : ¬ k < ns.length := by
      have := of_decide_eq_false hh
      rw [List.length_map] at this
      omega
    refine EE.is (ee_bin (ee_bin (ee_bin (ee_callB (ea_cons (EE.is (d' := Ls ((cut ns none (some 1)).map .int)) (ee_slice (ee_var (i := 0) rfl) eo_none (eo_some ee_int) (fun m => by walk_at "sl")) (by rw [cut_map])) ea_nil) (fun m => ca_sum rfl) T.m_sum bo_sum) ee_int (by walk_at "bd")) (ee_bin ee_int (ee_var (i := 1) rfl) (by walk_at "bd")) (by walk_at "bd")) ee_int (by walk_at "bd")) ?_
    rw [if_neg h1]
  · generalize (if k < ns.length then ns.getD k 0 else (cut ns none (some 1)).sum % 1000003 + 1524 * (k : Int) + 786) = cell
    refine wss_cons (ws_setE (i := 3) sc__law_pot.nd (ee_bin (ee_bin (ee_callTy (ea_cons (ee_callB (ea_cons (ee_var (i := 2) rfl) ea_nil) (fun m => by walk_at "ca") T.m_abs bo_abs) ea_nil) (fun m => by walk_at "ca") T.m_int bo_int) (ee_bin (ee_bin ee_int ee_int (by walk_at "bd")) ee_int (by walk_at "bd")) (by walk_at "bd")) (ee_callTy (ea_cons (ee_cmp (ee_callB (ea_cons (ee_var (i := 2) rfl) ea_nil) (fun m => by walk_at "ca") T.m_abs bo_abs) (ee_bin ee_int ee_int (by walk_at "bd")) (by walk_at "cd")) ea_nil) (fun m => by walk_at "ca") T.m_int bo_int) (by walk_at "bd")) ?_)
    refine wss_cons (ws_setE (i := 4) sc__law_pot.nd (ee_bin (ee_callTy (ea_cons (ee_var (i := 2) rfl) ea_nil) (fun m => by walk_at "ca") T.m_int bo_int) ee_int (by walk_at "bd")) ?_)
    refine wss_one (ws_ret (we_lstN (EA.to ((ea_cons (ee_var (i := 3) rfl) (ea_cons (ee_bin (ee_callTy (ea_cons (ee_bin (ee_bin (ee_bin (ee_var (i := 4) rfl) ee_int (by walk_at "bd")) (ee_bin (ee_bin ee_int (ee_var (i := 1) rfl) (by walk_at "bd")) (ee_var (i := 1) rfl) (by walk_at "bd")) (by walk_at "bd")) ee_int (by walk_at "bd")) ea_nil) (fun m => by walk_at "ca") T.m_int bo_int) ee_int (by walk_at "bd")) (ea_cons ee_int ea_nil)))) ⟨[.int _, .int _, .int 0], rfl, by simp, fun p hpf => h p _ _ hpf ?_ ?_⟩)))
    · refine Int.mul_nonneg (Int.emod_nonneg _ (by decide +kernel)) ?_
      (repeat' split) <;> decide
    · exact ⟨Int.emod_nonneg _ (by decide), Int.emod_lt_of_pos _ (by decide)⟩
end
inductive R__law_chip_torn : List SD → SD → Prop
  | mk {cs ps : List Nat} (hc : HexL cs) (hp : HexL ps) (h0 : ps ≠ []) (hz : cs.length ≤ 1000 ∧ ps.length ≤ 1000) : R__law_chip_torn [S cs, S ps] (S (tornL cs ps))
inductive F__law_chip_pattern : FT
  | mk {p : Addr} {a b c : Int} {m : MS} {P : SD → MS → Prop} (ha : 0 ≤ a) (hb : PB b) (hc : 0 ≤ c ∧ c ≤ 90000) (hpf : p ∉ ad m)
      (h : ∀ (us : List Nat) (a' c' : Int), HexL us → 0 < us.length ∧ us.length ≤ 20 → 0 ≤ a' → (0 ≤ c' ∧ c' ≤ c + 30) → P (S us) (Pt p a' b c' :: m)) : F__law_chip_pattern [.raw (.ref p)] (Pt p a b c :: m) P
inductive F__law_chip_page : FT
  | mk {p : Addr} {a b c : Int} {m : MS} {P : SD → MS → Prop} (ha : 0 ≤ a) (hb : PB b) (hc : 0 ≤ c ∧ c ≤ 90000) (hpf : p ∉ ad m)
      (h : ∀ (us : List Nat) (a' c' : Int), HexL us → us.length = 256 → 0 ≤ a' → (0 ≤ c' ∧ c' ≤ c + 30) → P (S us) (Pt p a' b c' :: m)) : F__law_chip_page [.raw (.ref p)] (Pt p a b c :: m) P
theorem hexc_occ : ∀ c ∈ hexS, Builtin.Str.occurrences ⟨hexS.toArray⟩ ⟨#[c]⟩ 0 (⟨hexS.toArray⟩ : Str).length 1 = [hexS.idxOf c] := by decide +kernel
theorem md_hexc {X : Cx} {m : MS} {c : Nat} (h : c ∈ hexS) : MtD X "str" "str.index" m (S hexS) [S [c]] (I (hexS.idxOf c : Nat)) := md_index (hexc_occ c h)
theorem hex_ord : ∀ a ∈ hexS, ∀ b ∈ hexS, (hexS.idxOf b ≤ hexS.idxOf a ↔ ¬ a < b) := by decide +kernel
local macro_rules | `(tactic| walk_at "md") => `(tactic| first | exact md_hexc (by assumption) | exact md_joinS (by walk_at "sz"))
theorem map_zip_get' {l : List Nat} {i : Nat} {x : SD} (h : (l.zipIdx.map fun (q : Nat × Nat) => Tp [.int (q.2 : Nat), .str ⟨[q.1].toArray⟩])[i]? = some x) : ∃ c, l[i]? = some c ∧ x = Tp [.int (i : Nat), .str ⟨[c].toArray⟩] := by
  obtain ⟨⟨c, j⟩, hq, rfl⟩ := map_get h
  rw [List.getElem?_zipIdx] at hq
  cases e : l[i]? with
  | none => rw [e] at hq; cases hq
  | some d =>
    rw [e] at hq
    have hq : (d, 0 + i) = (c, j) := Option.some.inj hq
    injection hq with h1 h2
    subst h1
    exact ⟨d, rfl, by rw [← h2, Nat.zero_add]⟩
theorem torn_at {cs ps : List Nat} {i c : Nat} (h : cs[i]? = some c) : (tornL cs ps)[i]? = some (mx c (ps.getD (i % ps.length) 0)) := by
  unfold tornL
  rw [List.getElem?_map, List.getElem?_zipIdx, h]
  show some (mx c (ps.getD ((0 + i) % ps.length) 0)) = _
  rw [Nat.zero_add]
section
variable {P : Program} {w : World} {K : PySem.W.Frag} {mg : Str → Option Value} {base : Heap}
theorem ok__law_chip_torn (T : Tx P K mg) : FnG P w K mg base CX0 3 T.a__law_chip_torn T.d__law_chip_torn ["cells", "pattern"] (SpD K (pureF R__law_chip_torn)) := by
  refine fnD_okA (W9.Fun.toA T.F__law_chip_torn) sc__law_chip_torn (fun xs m Pp ⟨d, h, _⟩ => by cases h <;> rfl) (fun cdv A outer s H E hcd rm xs m Pp ⟨d, hR, hp⟩ => ?_)
  cases hR with | @mk cs ps hc hp2 h0 hz =>
  obtain ⟨z1, z2⟩ := hz
  have hl : 0 < ps.length := List.length_pos_iff.mpr h0
  have htl := tornL_len (cs := cs) (ps := ps)
  refine wss_cons (ws_new (i := 2) sc__law_chip_torn.nd fun p hpf => ?_)
  refine wss_cons (ws_for (js := [3, 4]) (((ei_enumS (ee_var (i := 0) rfl) (by walk_at "asc") T.m_enumerate)).to ⟨fun i ds' m' => ∃ y z u, ds' = [some (S cs), some (S ps), some (.raw (.ref p)), y, z, u] ∧ m' = (p, .dl (((tornL cs ps).take i).map fun c => PyData.str ⟨[c].toArray⟩)) :: m, ⟨none, none, none, rfl, by rw [List.take_zero]; rfl⟩, ?_, ?_⟩))
  · rintro i x ds' m' hx ⟨y, z, u, rfl, rfl⟩
    obtain ⟨c, hw, rfl⟩ := map_zip_get' hx
    have hi := get_lt hw
    have hch : c ∈ hexS := hc c (List.mem_of_getElem? hw)
    have hm : i % ps.length < ps.length := Nat.mod_lt _ hl
    have hps : ps[i % ps.length]? = some (ps.getD (i % ps.length) 0) := by rw [List.getD_eq_getElem?_getD, List.getElem?_eq_getElem hm]; rfl
    have hrh : ps.getD (i % ps.length) 0 ∈ hexS := hp2 _ (List.mem_of_getElem? hps)
    refine wg_tup (wgs_cons (wg_name (wgs_cons (wg_name (wgs_nil ?_) sc__law_chip_torn.nd)) sc__law_chip_torn.nd))
    refine wss_cons (ws_setE (i := 5) sc__law_chip_torn.nd (d := S [ps.getD (i % ps.length) 0]) (ee_sub (ee_var (i := 1) rfl) (ee_bin (ee_var (i := 3) rfl) (ee_callB (ea_cons (ee_var (i := 1) rfl) ea_nil) (fun m => by walk_at "ca") T.m_len bo_len) (by walk_at "bd")) (fun m => sd_str (at_nn (Int.emod_nonneg _ (by omega)) (by rw [← Int.natCast_emod, Int.toNat_natCast]; exact hps)) (by omega))) ?_)
    generalize hr : ps.getD (i % ps.length) 0 = r at hrh
    have ho := hex_ord c hch r hrh
    refine wss_one (ws_appH (d := .str ⟨[mx c r].toArray⟩) hpf (ee_var (i := 2) rfl) (ee_if (et_cmp (ee_meth PySem.F.plainAttrs_str PySem.F.slot_str_index PySem.F.type_str_index (ee_strS (l := [48, 49, 50, 51, 52, 53, 54, 55, 56, 57, 97, 98, 99, 100, 101, 102])) (ea_cons (ee_var (i := 4) rfl) ea_nil) (fun m => by walk_at "md")) (ee_meth PySem.F.plainAttrs_str PySem.F.slot_str_index PySem.F.type_str_index (ee_strS (l := [48, 49, 50, 51, 52, 53, 54, 55, 56, 57, 97, 98, 99, 100, 101, 102])) (ea_cons (ee_var (i := 5) rfl) ea_nil) (fun m => by walk_at "md")) (by walk_at "cd")) (fun h => ?_) (fun h => ?_)) (by rw [List.length_map, List.length_take]; omega) ⟨_, _, _, rfl, ?_⟩)
    · have h := of_decide_eq_true h
      refine EE.is (ee_var (i := 4) rfl) ?_
      unfold mx
      rw [if_neg (ho.mp (by omega))]
    · have h := of_decide_eq_false h
      refine EE.is (ee_var (i := 5) rfl) ?_
      unfold mx
      rw [if_pos (Decidable.not_not.mp fun z => h (by have := ho.mpr z; omega))]
    · rw [List.take_add_one, torn_at hw, hr]
      rw [List.map_append]
      rfl
  · rintro ds' m' ⟨y, z, u, rfl, rfl⟩
    rw [List.length_map, List.length_zipIdx, List.take_of_length_le (by omega)]
    refine wss_seal (i := 2) rfl (wss_one (ws_retE (ee_meth PySem.F.plainAttrs_str PySem.F.slot_str_join PySem.F.type_str_join (ee_strS (l := [])) (ea_cons (ee_var (i := 2) rfl) ea_nil) (fun m => by walk_at "md")) hp))
theorem pat_sign {d : PyData} (h : d ∈ [48, 48, 48, 102, 102, 102, 51, 55, 98, 100].map sgn) : ∃ x, x ∈ hexS ∧ d = .str ⟨[x].toArray⟩ := by
  obtain ⟨x, hx, rfl⟩ := List.mem_map.mp h
  have : ∀ x ∈ [48, 48, 48, 102, 102, 102, 51, 55, 98, 100], x ∈ hexS := by decide
  exact ⟨x, this x hx, rfl⟩
theorem hexL_nil : HexL [] := fun _ h => nomatch h
theorem hexL_app {us : List Nat} {x : Nat} (h : HexL us) (hx : x ∈ hexS) : HexL (us ++ [x]) := fun c hc => by
  rcases List.mem_append.mp hc with z | z
  · exact h c z
  · rw [List.mem_singleton.mp z]; exact hx
theorem ok__law_chip_pattern (T : Tx P K mg) : FnG P w K mg base CX0 9 T.a__law_chip_pattern T.d__law_chip_pattern ["pot"] (SpD K F__law_chip_pattern) := by
  refine fnD_okA (W9.Fun.toA T.F__law_chip_pattern) sc__law_chip_pattern (fun xs m Pp h => by cases h <;> rfl) (fun cdv A outer s H E hcd rm xs m Pp hF => ?_)
  cases hF with | @mk p a b c m Pp ha hb hc hpf h =>
  refine wss_cons (ws_set (i := 1) sc__law_chip_pattern.nd (wg_call (ok__law_take T) (rm.mono (by decide)) T.m__law_take T.F__law_take.kp T.b__law_take (EA.to (ea_cons (ee_var (i := 0) rfl) (ea_cons ee_int ea_nil)) ⟨[], _, rfl, .mk ha hb ⟨hc.1, by omega⟩ (by decide) hpf fun way a1 c1 h1 h2 h3 => ?_⟩)))
  refine wss_cons (ws_ife (et_cmp (ee_var (i := 1) rfl) ee_int (by walk_at "cd")) (fun hw => ?_) fun hw => wss_nil ?_)
  · have hw := of_decide_eq_true hw
    have e : way = 0 ∨ way = 1 := by omega
    rcases e with rfl | rfl
    · exact wss_one (ws_retE (ee_sub (ee_lst (eap_cons (ee_strS (l := [102])) (eap_cons (ee_strS (l := [48])) eap_nil))) (ee_var (i := 1) rfl) (fun m => by walk_at "sd")) (h [102] a1 c1 (by unfold HexL; decide) (by decide) h2 ⟨h3.1, by omega⟩))
    · exact wss_one (ws_retE (ee_sub (ee_lst (eap_cons (ee_strS (l := [102])) (eap_cons (ee_strS (l := [48])) eap_nil))) (ee_var (i := 1) rfl) (fun m => by walk_at "sd")) (h [48] a1 c1 (by unfold HexL; decide) (by decide) h2 ⟨h3.1, by omega⟩))
  · have hw := of_decide_eq_false hw
    have hn : 0 < [0, 0, 7, 19].getD way.toNat (0 : Int) ∧ [0, 0, 7, 19].getD way.toNat (0 : Int) ≤ 19 := by
      have e : way = 2 ∨ way = 3 := by omega
      rcases e with rfl | rfl <;> decide
    refine wss_one (ws_ret (we_meth PySem.F.plainAttrs_str PySem.F.slot_str_join PySem.F.type_str_join (ee_strS (l := [])) (fun m => ty_str) (wa_cons
      (we_lcI (fun i acc m' => ∃ (us : List Nat) (a' c' : Int), HexL us ∧ us.length = i ∧ acc = us.map sgn ∧ 0 ≤ a' ∧ (0 ≤ c' ∧ c' ≤ c + 2 + i) ∧ m' = Pt p a' b c' :: m) [("lap", 2)] rfl sc__law_chip_pattern.nd
        (wi_range1 (we_bin (EE.to ee_int (wg_call (ok__law_take T) (rm.mono (by decide)) T.m__law_take T.F__law_take.kp T.b__law_take (EA.to (ea_cons (ee_var (i := 0) rfl) (ea_cons (ee_sub (ee_lst (eap_cons ee_int (eap_cons ee_int (eap_cons ee_int (eap_cons ee_int eap_nil))))) (ee_var (i := 1) rfl) (fun m => sd_ints (l := [0, 0, 7, 19]) (by omega) (by simp only [List.length_cons, List.length_nil]; omega))) ea_nil)) ⟨[], _, rfl, .mk h2 hb ⟨h3.1, by omega⟩ ⟨hn.1, by omega⟩ hpf fun d a2 c2 h4 h5 h6 => ⟨_, bd_add, _, rfl, by omega, by rw [List.length_map, List.length_range]; omega, ⟨[], a2, c2, hexL_nil, rfl, rfl, h5, ⟨h6.1, by omega⟩, rfl⟩, ?_, ?_⟩⟩)))) T.m_range)
        (fun _ _ _ _ _ _ _ _ _ p => wg_name p sc__law_chip_pattern.nd) (blkOk_by (by rfl))))))
    · rintro i y acc m' hy hi ⟨us, a3, c3, ho, hl, rfl, ha3, hc3, rfl⟩ s H Ce cl_ fp
      have hlt := get_lt hy
      rw [List.length_map, List.length_range] at hlt
      refine (wg_call (ok__law_of T) (rm.mono (by decide)) T.m__law_of T.F__law_of.kp T.b__law_of (EA.to (ea_cons (ee_var (i := 0) rfl) (ea_cons (ee_callTy (ea_cons (ee_strS (l := [48, 48, 48, 102, 102, 102, 51, 55, 98, 100])) ea_nil) (fun m => by walk_at "ca") T.m_list bo_list) ea_nil)) ⟨[], _, rfl, .mk ha3 hb ⟨hc3.1, by omega⟩ (by decide) hpf fun d a4 c4 h7 h8 h9 => ?_⟩))
      obtain ⟨x, hx, rfl⟩ := pat_sign h7
      exact ⟨_, rfl, us ++ [x], a4, c4, hexL_app ho hx, by rw [List.length_append, hl]; rfl, by rw [List.map_append]; rfl, h8, ⟨h9.1, by omega⟩, rfl⟩
    · rintro acc m' hi ⟨us, a3, c3, ho, hl, rfl, ha3, hc3, rfl⟩
      rw [List.length_map, List.length_range] at hl hc3
      exact wa_nil ⟨_, md_joinS (by omega), h us a3 c3 ho (by omega) ha3 ⟨hc3.1, by omega⟩⟩
theorem hexs_sign {d : PyData} (h : d ∈ hexS.map sgn) : ∃ x, x ∈ hexS ∧ d = .str ⟨[x].toArray⟩ := by
  obtain ⟨x, hx, rfl⟩ := List.mem_map.mp h
  exact ⟨x, hx, rfl⟩
theorem rep_mem {n : Nat} {l : List Nat} {c : Nat} (h : c ∈ rep n l) : c ∈ l := by
  induction n with
  | zero => cases h
  | succ n ih =>
    have h : c ∈ l ++ rep n l := h
    rcases List.mem_append.mp h with z | z
    · exact z
    · exact ih z
theorem ok__law_chip_page (T : Tx P K mg) : FnG P w K mg base CX0 9 T.a__law_chip_page T.d__law_chip_page ["pot"] (SpD K F__law_chip_page) := by
  refine fnD_okA (W9.Fun.toA T.F__law_chip_page) sc__law_chip_page (fun xs m Pp h => by cases h <;> rfl) (fun cdv A outer s H E hcd rm xs m Pp hF => ?_)
  cases hF with | @mk p a b c m Pp ha hb hc hpf h =>
  refine wss_cons (ws_set (i := 1) sc__law_chip_page.nd (we_meth PySem.F.plainAttrs_str PySem.F.slot_str_join PySem.F.type_str_join (ee_strS (l := [])) (fun m => ty_str) (wa_cons
      (we_lcI (fun i acc m' => ∃ (us : List Nat) (a' c' : Int), HexL us ∧ us.length = i ∧ acc = us.map sgn ∧ 0 ≤ a' ∧ (0 ≤ c' ∧ c' ≤ c + 2 + i) ∧ m' = Pt p a' b c' :: m) [("lap", 2)] rfl sc__law_chip_page.nd
        (wi_range1 (we_bin (EE.to ee_int (wg_call (ok__law_take T) (rm.mono (by decide)) T.m__law_take T.F__law_take.kp T.b__law_take (EA.to (ea_cons (ee_var (i := 0) rfl) (ea_cons ee_int ea_nil)) ⟨[], _, rfl, .mk ha hb ⟨hc.1, by omega⟩ (by decide) hpf fun d a2 c2 h4 h5 h6 => ⟨_, bd_add, _, rfl, by omega, by rw [List.length_map, List.length_range]; omega, ⟨[], a2, c2, hexL_nil, rfl, rfl, h5, ⟨h6.1, by omega⟩, rfl⟩, ?_, ?_⟩⟩)))) T.m_range)
        (fun _ _ _ _ _ _ _ _ _ p => wg_name p sc__law_chip_page.nd) (blkOk_by (by rfl))))))
  · rintro i y acc m' hy hi ⟨us, a3, c3, ho, hl, rfl, ha3, hc3, rfl⟩ s H Ce cl_ fp
    have hlt := get_lt hy
    rw [List.length_map, List.length_range] at hlt
    refine (wg_call (ok__law_of T) (rm.mono (by decide)) T.m__law_of T.F__law_of.kp T.b__law_of (EA.to (ea_cons (ee_var (i := 0) rfl) (ea_cons (ee_callTy (ea_cons (ee_strS (l := [48, 49, 50, 51, 52, 53, 54, 55, 56, 57, 97, 98, 99, 100, 101, 102])) ea_nil) (fun m => by walk_at "ca") T.m_list bo_list) ea_nil)) ⟨[], _, rfl, .mk ha3 hb ⟨hc3.1, by omega⟩ (by decide) hpf fun d a4 c4 h7 h8 h9 => ?_⟩))
    obtain ⟨x, hx, rfl⟩ := hexs_sign h7
    exact ⟨_, rfl, us ++ [x], a4, c4, hexL_app ho hx, by rw [List.length_append, hl]; rfl, by rw [List.map_append]; rfl, h8, ⟨h9.1, by omega⟩, rfl⟩
  · rintro acc m' hi ⟨us, a3, c3, ho, hl, rfl, ha3, hc3, rfl⟩
    rw [List.length_map, List.length_range] at hl hc3
    refine wa_nil ⟨_, md_joinS (by omega), ?_⟩
    have hus : 0 < us.length ∧ us.length ≤ 12 := by omega
    have hrl : (rep 256 us).length = 256 * us.length := rep_length 256 us
    refine wss_one (ws_retE (EE.is (ee_slice (ee_bin (ee_var (i := 1) rfl) ee_int (bd_mulS (by constructor; omega; constructor; omega; show us.length * 256 ≤ 1000000; omega))) eo_none (eo_some ee_int) (fun m => sl_S (by show (rep 256 us).length ≤ 1000000; omega))) (show _ = S ((rep 256 us).take 256) from congrArg S (cut_0n _ 256))) (h _ a3 c3 (fun x hx => ho x (rep_mem (List.mem_of_mem_take hx))) (by rw [List.length_take]; omega) ha3 ⟨hc3.1, by omega⟩))
end
end K15
end W9
namespace W9
namespace K15
open PySem PySem.Spec PyProof.Rows L2
local macro_rules | `(tactic| walk_at "sz") => `(tactic| first | assumption | omega | decide | (simp only [List.length_append, List.length_map, List.length_zipIdx, List.length_cons, List.length_nil, List.length_replicate, List.length_range, List.length_zip, List.length_take, List.length_drop]; omega) | (simp; omega) | (simp; done))
local macro_rules | `(tactic| walk_at "bd") => `(tactic| first | exact bd_add | exact bd_sub | exact bd_mul (by omega) | exact bd_mod (by omega) | exact bd_mod (by decide +kernel) | exact bd_pow (by omega) | exact bd_powX (by decide +kernel) | exact bd_div (by omega) | exact bd_addS (by walk_at "sz") | exact bd_mulS (by walk_at "sz") | exact bd_catL (by walk_at "sz"))
local macro_rules | `(tactic| walk_at "cd") => `(tactic| first | exact cd_lt | exact cd_le | exact cd_gt | exact cd_ge | exact cd_eq | exact cd_ne | exact cd_isN | exact cd_notN | exact cd_eqS | exact cd_neS | exact cd_ltS | exact cd_inS | exact cd_notinS | exact cd_inTs (Rm.mono (by assumption) (by decide)) (by assumption) (by assumption) | exact cd_notinTs | exact cd_eqT | exact cd_neT | exact cd_notinI (Rm.mono (by assumption) (by decide)))
local macro_rules | `(tactic| walk_at "ca") => `(tactic| first | exact ca_isiD (by simp) | exact ca_lenS (by walk_at "sz") | exact ca_lenL | exact ca_lenT | exact ca_allm rfl | exact ca_int | exact ca_intB | exact ca_abs | exact ca_max2 rfl | exact ca_min2 rfl | exact ca_sum rfl | exact ca_tupL | exact ca_listL | exact ca_listT | exact ca_maxS rfl | exact ca_listS rfl (by walk_at "sz"))
local macro_rules | `(tactic| walk_at "sl") => `(tactic| first | exact sl_S (by walk_at "sz") | exact sl_L | exact sl_T)
local macro_rules | `(tactic| walk_at "rg") => `(tactic| omega)
local macro_rules | `(tactic| walk_at "asc") => `(tactic| first | assumption | exact HexL.asc (by assumption))
local macro_rules | `(tactic| walk_at "sd") => `(tactic| first | exact sd_tup (by rfl) | exact sd_lst (by rfl) | exact sd_tup (at_nn (by decide) (by rfl)) | exact sd_lst (at_nn (by decide) (by rfl)))
inductive R__law_chip_begun : List SD → SD → Prop
  | mk {bl pg : Int} {fs : PyData} (hb : 0 ≤ bl ∧ bl ≤ 64 ∧ 0 ≤ pg ∧ pg ≤ 16) (h : faultsB fs = true) : R__law_chip_begun [I bl, I pg, .py fs] (Dd (newO bl pg fs).d)
inductive R__law_chip_fault : List SD → SD → Prop
  | mk {o : Own} (h : FsOk o.fs) : R__law_chip_fault [Dd o.d] (Tp [tx o.word.1, tx o.word.2])
section
variable {P : Program} {w : World} {K : PySem.W.Frag} {mg : Str → Option Value} {base : Heap}
inductive F__law_chip_deed (T : Tx P K mg) : FT
  | mk {o : Own} {b : Int} {wd : List Nat} {m : MS} {Pp : SD → MS → Prop} (hl : o.bad.length ≤ 1000) (h : ∀ p, p ∉ ad m → Pp (TpS K [.raw (.ref p), .py (o.deed b wd).2]) ((p, .ds (pyK (o.deed b wd).1.d)) :: m)) : F__law_chip_deed T [Dd o.d, I b, S wd] m Pp
theorem ok__law_chip_begun (T : Tx P K mg) : FnG P w K mg base CX0 3 T.a__law_chip_begun T.d__law_chip_begun ["blocks", "pages", "faults"] (SpD K (pureF R__law_chip_begun)) := by
  refine fnD_okA (W9.Fun.toA T.F__law_chip_begun) sc__law_chip_begun (fun xs m Pp ⟨d, h, _⟩ => by cases h <;> rfl) (fun cdv A outer s H E hcd rm xs m Pp ⟨d, hR, hp⟩ => ?_)
  cases hR with | @mk bl pg fs hb h =>
  have hp_ := hp
  obtain ⟨b1, b2, b3, b4⟩ := hb
  have hbp : 0 ≤ bl * pg ∧ bl * pg ≤ 1024 := ⟨Int.mul_nonneg b1 b3, by
    have z1 : bl * pg ≤ 64 * pg := Int.mul_le_mul_of_nonneg_right b2 b3
    omega⟩
  have hm1 : (-(2 ^ 64) < bl ∧ bl < 2 ^ 64) := by omega
  obtain ⟨l, rfl⟩ : ∃ l, fs = .tuple l := by cases fs with
    | tuple l => exact ⟨l, rfl⟩
    | _ => cases h
  have hall : l.all faultB = true := by
    have : (l.all faultB && ascI (l.map ftI)) = true := h
    rw [Bool.and_eq_true] at this
    exact this.1
  have hfl := flL_P hall
  refine wss_cons (ws_set (i := 3) sc__law_chip_begun.nd (we_ddisp (l := [(.inr "blocks", I bl), (.inr "pages", I pg), (.inr "cells", Ls (txts (List.replicate (bl * pg).toNat emptyL))), (.inr "wear", Ls ((List.replicate bl.toNat (0 : Int)).map .int))])
    (eps_cons ee_str (ee_var (i := 0) rfl) (eps_cons ee_str (ee_var (i := 1) rfl) (eps_cons ee_str (EE.is (ee_repL (l := [tx (rep 256 [102])]) (eap_cons (ee_bin (ee_strS (l := [102])) ee_int (by walk_at "bd")) eap_nil) (ee_bin (ee_var (i := 0) rfl) (ee_var (i := 1) rfl) (by walk_at "bd")) ⟨hbp.1, by omega, by show 1 * (bl * pg).toNat ≤ 1000000; omega, by decide⟩) ?_) (eps_cons ee_str (EE.is (ee_repL (l := [.int 0]) (eap_cons ee_int eap_nil) (ee_var (i := 0) rfl) ⟨b1, by omega, by show 1 * bl.toNat ≤ 1000000; omega, by decide⟩) ?_) eps_nil)))) (fun p hp => ?_) (by show 4 ≤ 15; decide)))
  · rw [rep_flat, rep_one]; unfold txts; rw [List.map_replicate]
  · rw [rep_flat, List.map_replicate]
  rw [mrgK_nil (by show List.Nodup [(.inr "blocks" : Key), .inr "pages", .inr "cells", .inr "wear"]; decide +kernel)]
  refine wss_cons (ws_expr (we_updD (ee_var (i := 3) rfl) List.mem_cons_self (we_ddisp (l := [(.inr "bad", Ls (([] : List Int).map .int)), (.inr "written", .py (dictP (wrK []))), (.inr "faults", Ls ((flL (.tuple l)).map f3P)), (.inr "done", I 0), (.inr "cuts", I 0), (.inr "is_on", B true)])
    (eps_cons ee_str (ee_lst eap_nil) (eps_cons ee_str ee_d0 (eps_cons ee_str (EE.is (ee_callTy (ea_cons (ee_var (i := 2) rfl) ea_nil) (fun m => by walk_at "ca") T.m_list bo_list) (congrArg Ls hfl)) (eps_cons ee_str ee_int (eps_cons ee_str ee_int (eps_cons ee_str ee_bl eps_nil)))))) (fun p2 hp2 => ⟨p2, _, _, rfl, rfl, List.mem_cons_self, ?_, ?_⟩) (by show 6 ≤ 15; decide))))
  · rw [mrgK_nil (by show List.Nodup [(.inr "bad" : Key), .inr "written", .inr "faults", .inr "done", .inr "cuts", .inr "is_on"]; decide +kernel)]
    show 4 + 6 ≤ 1000000
    decide
  · rw [mrgK_nil (by show List.Nodup [(.inr "bad" : Key), .inr "written", .inr "faults", .inr "done", .inr "cuts", .inr "is_on"]; decide +kernel), mrgK_app (by show ownKs.Nodup; exact ownKs_nd), mset_hd hp]
    exact wss_one (ws_ret (we_lock (EE.to (ee_var (i := 3) rfl) ⟨p, (newO bl pg (.tuple l)).d, _, rfl, rfl, hp_⟩)))
theorem ok__law_chip_fault (T : Tx P K mg) : FnG P w K mg base CX0 3 T.a__law_chip_fault T.d__law_chip_fault ["own"] (SpD K (pureF R__law_chip_fault)) := by
  refine fnD_okA (W9.Fun.toA T.F__law_chip_fault) sc__law_chip_fault (fun xs m Pp ⟨d, h, _⟩ => by cases h <;> rfl) (fun cdv A outer s H E hcd rm xs m Pp ⟨d, hR, hp⟩ => ?_)
  cases hR with | @mk o h =>
  have hfl := h.l
  refine wss_cons (ws_setLcG (i := 1) o.fs (fun q => Tp [.int q.1, tx q.2.1, tx q.2.2]) (fun q => decide (q.1 = o.done + 1)) (fun q => .tuple [tx q.2.1, tx q.2.2]) (fun q ds => ((ds.set 2 (some (I q.1))).set 3 (some (S q.2.1))).set 4 (some (S q.2.2))) [("at", 2), ("word", 3), ("pattern", 4)] rfl sc__law_chip_fault.nd
      (EI.to (ei_lst (ee_getD (k := .inr "faults") (hu_of rm.r) (ee_var (i := 0) rfl) ee_str gk_faults)) ⟨by rw [List.map_map]; rfl, rfl⟩) (by omega)
      (fun q _ s H Ce cl fp ds m Q hq => wg_tup (wgs_cons (wg_name (wgs_cons (wg_name (wgs_cons (wg_name (wgs_nil hq) sc__law_chip_fault.nd)) sc__law_chip_fault.nd)) sc__law_chip_fault.nd)))
      (fun q _ s H Ce cl fp Q hq => wts_one (ET.to (et_cmp (ee_var (i := 2) rfl) (ee_bin (ee_getD (k := .inr "done") (hu_of rm.r) (ee_var (i := 0) rfl) ee_str gk_done) ee_int (by walk_at "bd")) (by walk_at "cd")) hq)) (fun q _ _ s H Ce cl fp Q hq => EE.to (ee_tup (eap_cons (ee_var (i := 3) rfl) (eap_cons (ee_var (i := 4) rfl) eap_nil))) hq) (blkOk_by (by rfl)) ?_)
  have hsh : SeqAt.shaped (.list ((o.fs.filter fun q => decide (q.1 = o.done + 1)).map fun q => PyData.tuple [tx q.2.1, tx q.2.2])) = true := sh_pairs fun q hq => ⟨word_pl (h.k q ((List.mem_filter.mp hq).1)).1, hex_pl (h.k q ((List.mem_filter.mp hq).1)).2.1⟩
  have hf := word_find (o := o)
  unfold Own.word at hp
  cases hl : (o.fs.filter fun q => decide (q.1 = o.done + 1)) with
  | nil =>
    rw [hl] at hsh hf
    rw [← hf] at hp
    exact wss_one (ws_retE (ee_if (k := false) (ET.is (et_cmp (ee_var (i := 1) rfl) (ee_lst eap_nil) (cd_neD (rm.mono (by decide)) hsh (by rfl))) (by rfl)) (fun z => nomatch z) (fun _ => (ee_tup (eap_cons (ee_strS (l := [])) (eap_cons (ee_strS (l := [])) eap_nil))))) hp)
  | cons q l =>
    rw [hl] at hsh hf
    rw [← hf] at hp
    exact wss_one (ws_retE (ee_if (k := true) (ET.is (et_cmp (ee_var (i := 1) rfl) (ee_lst eap_nil) (cd_neD (rm.mono (by decide)) hsh (by rfl))) (by rfl)) (fun _ => (ee_sub (ee_var (i := 1) rfl) ee_int (fun m => by walk_at "sd"))) (fun z => nomatch z)) hp)
theorem ok__law_chip_deed (T : Tx P K mg) : FnG P w K mg base CX0 3 T.a__law_chip_deed T.d__law_chip_deed ["own", "block", "word"] (SpD K (F__law_chip_deed T)) := by
  refine fnD_okA (W9.Fun.toA T.F__law_chip_deed) sc__law_chip_deed (fun xs m Pp h => by cases h <;> rfl) (fun cdv A outer s H E hcd rm xs m Pp hF => ?_)
  cases hF with | @mk o b wd m Pp hl h =>
  refine wss_cons (ws_set (i := 3) sc__law_chip_deed.nd (we_dictPr (l := o.d) (EE.to (ee_litems rfl T.m_list (ee_var (i := 0) rfl)) ⟨rfl, fun p hp => ?_⟩) rfl T.m_dict bo_dict))
  rw [mrg_own]
  refine wss_cons (ws_putD (k := .inr "done") (hu_of rm.r) (ee_var (i := 3) rfl) ee_str (EE.to (ee_bin (ee_getD (k := .inr "done") (hu_of rm.r) (ee_var (i := 0) rfl) ee_str gk_done) ee_int (by walk_at "bd")) ⟨_, List.mem_cons_self, own_lt, ?_⟩))
  rw [mset_hd hp, sk_done]
  have h := h p hp
  unfold Own.deed at h
  by_cases hc : wd = cutL
  · subst hc
    rw [if_pos rfl] at h
    refine wss_cons (ws_ife (k := true) (ET.is (et_cmp (ee_var (i := 2) rfl) (ee_strS (l := [99, 117, 116])) (by walk_at "cd")) (by rfl)) (fun _ => ?_) fun z => nomatch z)
    refine wss_cons (ws_asg (EE.to (ee_tup (eap_cons (ee_bin (ee_getD (k := .inr "cuts") (hu_of rm.r) (ee_var (i := 0) rfl) ee_str gk_cuts) ee_int (by walk_at "bd")) (eap_cons ee_bl eap_nil))) (wg_tup (wgs_cons (wg_putD (k := .inr "cuts") (l := pyK { o with done := o.done + 1 }.d) (hu_of rm.r) (ee_var (i := 3) rfl) ee_str List.mem_cons_self own_lt (wgs_cons (wg_putD (k := .inr "is_on") (l := pyK { o with done := o.done + 1, cuts := o.cuts + 1 }.d) (hu_of rm.r) (ee_var (i := 3) rfl) ee_str ?_ ?_ (wgs_nil ?_))))))))
    · rw [mset_hd hp, sk_cuts]; exact List.mem_cons_self
    · exact own_lt
    rw [mset_hd hp, mset_hd hp, sk_is_on]
    exact wss_one (ws_ret (we_tupS (EA.to (ea_cons (ee_var (i := 3) rfl) (ea_cons (ee_strS (l := [99, 117, 116])) ea_nil)) ⟨by show 2 ≤ 1000000; decide, h⟩)))
  · rw [if_neg hc] at h
    refine wss_cons (ws_ife (k := false) (ET.is (et_cmp (ee_var (i := 2) rfl) (ee_strS (l := [99, 117, 116])) (by walk_at "cd")) (decide_eq_false hc)) (fun z => nomatch z) fun _ => wss_nil ?_)
    by_cases hb : wd = badL ∧ b ∉ o.bad
    · rw [if_pos hb] at h
      refine wss_cons (ws_ife (k := true) (ET.is (et_w (ew_and (et_cmp (ee_var (i := 2) rfl) (ee_strS (l := [98, 97, 100])) (by walk_at "cd")) (fun hk => (ew_and1 (et_cmp (ee_var (i := 1) rfl) (ee_getD (k := .inr "bad") (hu_of rm.r) (ee_var (i := 0) rfl) ee_str gk_bad) (by walk_at "cd")))))) (by rw [decide_eq_true hb.1, decide_eq_false hb.2]; rfl)) (fun _ => ?_) fun z => nomatch z)
      refine wss_one (ws_putD (k := .inr "bad") (hu_of rm.r) (ee_var (i := 3) rfl) ee_str (EE.to (ee_callB (ea_cons (EE.is (ee_bin (ee_getD (k := .inr "bad") (hu_of rm.r) (ee_var (i := 0) rfl) ee_str gk_bad) (ee_lst (eap_cons (ee_var (i := 1) rfl) eap_nil)) (by walk_at "bd")) (show Ls (o.bad.map .int ++ [.int b]) = Ls ((o.bad ++ [b]).map .int) by rw [List.map_append]; rfl)) ea_nil) (fun m => ca_sortedI) T.m_sorted bo_sorted) ⟨_, List.mem_cons_self, own_lt, ?_⟩))
      rw [mset_hd hp, sk_bad]
      exact wss_one (ws_ret (we_tupS (wa_cons (EE.to (ee_var (i := 3) rfl) (wa_cons (we_cmp (EE.to (ee_var (i := 1) rfl) (we_getD (k := .inr "bad") (hu_of rm.r) (ee_var (i := 3) rfl) ee_str List.mem_cons_self (by rw [getK_py, gk_bad]; rfl) ⟨_, cd_notinI (rm.mono (by decide)), wa_nil ⟨by show 2 ≤ 1000000; decide, h⟩⟩))))))))
    · rw [if_neg hb] at h
      refine wss_cons (ws_ife (k := false) (ET.is (et_w (ew_and (et_cmp (ee_var (i := 2) rfl) (ee_strS (l := [98, 97, 100])) (by walk_at "cd")) (fun hk => (ew_and1 (et_cmp (ee_var (i := 1) rfl) (ee_getD (k := .inr "bad") (hu_of rm.r) (ee_var (i := 0) rfl) ee_str gk_bad) (by walk_at "cd")))))) ?_) (fun z => nomatch z) fun _ => wss_nil ?_)
      · by_cases h1 : wd = badL
        · rw [decide_eq_true h1, decide_eq_true (Decidable.not_not.mp fun z => hb ⟨h1, z⟩)]; rfl
        · rw [decide_eq_false h1]; rfl
      exact wss_one (ws_ret (we_tupS (wa_cons (EE.to (ee_var (i := 3) rfl) (wa_cons (we_cmp (EE.to (ee_var (i := 1) rfl) (we_getD (k := .inr "bad") (hu_of rm.r) (ee_var (i := 3) rfl) ee_str List.mem_cons_self (by rw [getK_py, gk_bad]; rfl) ⟨_, cd_notinI (rm.mono (by decide)), wa_nil ⟨by show 2 ≤ 1000000; decide, h⟩⟩))))))))
end
end K15
end W9
namespace W9
namespace K15
open PySem PySem.Spec PyProof.Rows L2
local macro_rules | `(tactic| walk_at "sz") => `(tactic| first | assumption | omega | decide | (simp only [List.length_append, List.length_map, List.length_zipIdx, List.length_cons, List.length_nil, List.length_replicate, List.length_range, List.length_zip, List.length_take, List.length_drop]; omega) | (simp; omega) | (simp; done))
local macro_rules | `(tactic| walk_at "bd") => `(tactic| first | exact bd_add | exact bd_sub | exact bd_mul (by omega) | exact bd_mod (by omega) | exact bd_mod (by decide +kernel) | exact bd_pow (by omega) | exact bd_powX (by decide +kernel) | exact bd_div (by omega) | exact bd_addS (by walk_at "sz") | exact bd_mulS (by walk_at "sz") | exact bd_catL (by walk_at "sz"))
local macro_rules | `(tactic| walk_at "cd") => `(tactic| first | exact cd_lt | exact cd_le | exact cd_gt | exact cd_ge | exact cd_eq | exact cd_ne | exact cd_isN | exact cd_notN | exact cd_eqS | exact cd_neS | exact cd_ltS | exact cd_inS | exact cd_notinS | exact cd_inTs (Rm.mono (by assumption) (by decide)) (by assumption) (by assumption) | exact cd_notinTs | exact cd_eqT | exact cd_neT | exact cd_notinI (Rm.mono (by assumption) (by decide)))
local macro_rules | `(tactic| walk_at "ca") => `(tactic| first | exact ca_isiD (by simp) | exact ca_lenS (by walk_at "sz") | exact ca_lenL | exact ca_lenT | exact ca_allm rfl | exact ca_int | exact ca_intB | exact ca_abs | exact ca_max2 rfl | exact ca_min2 rfl | exact ca_sum rfl | exact ca_tupL | exact ca_listL | exact ca_listT | exact ca_maxS rfl | exact ca_listS rfl (by walk_at "sz"))
local macro_rules | `(tactic| walk_at "sl") => `(tactic| first | exact sl_S (by walk_at "sz") | exact sl_L | exact sl_T)
local macro_rules | `(tactic| walk_at "rg") => `(tactic| omega)
local macro_rules | `(tactic| walk_at "asc") => `(tactic| first | assumption | exact HexL.asc (by assumption))
local macro_rules | `(tactic| walk_at "sd") => `(tactic| first | exact sd_tup (by rfl) | exact sd_lst (by rfl) | exact sd_tup (at_nn (by decide) (by rfl)) | exact sd_lst (at_nn (by decide) (by rfl)))
local macro_rules | `(tactic| walk_at "call _law_chip_fault") => `(tactic| exact .mk (by assumption))
structure WfO (o : Own) : Prop where
  b : 4 ≤ o.bl ∧ o.bl ≤ 64 ∧ 4 ≤ o.pg ∧ o.pg ≤ 16
  cl : (o.cells.length : Int) = o.bl * o.pg
  ce : ∀ t ∈ o.cells, HexL t ∧ t.length = 256
  wl : (o.wear.length : Int) = o.bl
  bd : o.bad.length ≤ 1000
  wr : o.wr.length ≤ 100000
  wk : (o.wr.map (·.1)).Nodup
  fs : FsOk o.fs
theorem word_ok {o : Own} (h : FsOk o.fs) : (o.word.1 = [] ∧ o.word.2 = []) ∨ ((o.word.1 = cutL ∨ o.word.1 = badL) ∧ HexL o.word.2 ∧ o.word.2 ≠ [] ∧ o.word.2.length ≤ 256) := by
  unfold Own.word
  cases e : o.fs.find? fun q => decide (q.1 = o.done + 1) with
  | none => exact .inl ⟨rfl, rfl⟩
  | some q => exact .inr (h.k q (List.mem_of_find?_eq_some e))
inductive R__law_chip_written : List SD → SD → Prop
  | mk {o : Own} {i : Int} {t : List Nat} (h : WfO o) (hi : 0 ≤ i ∧ i < o.bl * o.pg) (ht : HexL t ∧ t.length = 256) : R__law_chip_written [Dd o.d, I i, S t] (Tp [dictP (o.written i t).1.d, (o.written i t).2])
section
variable {P : Program} {w : World} {K : PySem.W.Frag} {mg : Str → Option Value} {base : Heap}
theorem ok__law_chip_written (T : Tx P K mg) : FnG P w K mg base CX0 6 T.a__law_chip_written T.d__law_chip_written ["own", "place", "cells"] (SpD K (pureF R__law_chip_written)) := by
  refine fnD_okA (W9.Fun.toA T.F__law_chip_written) sc__law_chip_written (fun xs m Pp ⟨d, h, _⟩ => by cases h <;> rfl) (fun cdv A outer s H E hcd rm xs m Pp ⟨d, hR, hp⟩ => ?_)
  cases hR with | @mk o i t h hi ht =>
  obtain ⟨b1, b2, b3, b4⟩ := h.b
  have hfs := h.fs
  have hcl := h.cl
  have hlt : i.toNat < o.cells.length := by omega
  have hwk := word_ok hfs
  refine wss_cons (ws_asg (js := [3, 4]) (EE.to (eg_call (ok__law_chip_fault T) (rm.mono (by decide)) T.m__law_chip_fault T.F__law_chip_fault.kp T.b__law_chip_fault (ea_cons (ee_var (i := 0) rfl) ea_nil) (by walk_at "call _law_chip_fault")) ?_))
  refine wg_tup (wgs_cons (wg_name (i := 3) (wgs_cons (wg_name (i := 4) (wgs_nil ?_) sc__law_chip_written.nd)) sc__law_chip_written.nd))
  refine wss_cons (ws_setE (i := 5) sc__law_chip_written.nd (ee_bin (ee_var (i := 1) rfl) (ee_getD (k := .inr "pages") (hu_of rm.r) (ee_var (i := 0) rfl) ee_str gk_pages) (by walk_at "bd")) ?_)
  unfold Own.written at hp
  dsimp only at hp
  refine wss_cons (ws_asg (js := [6, 7]) (wg_call (ok__law_chip_deed T) (rm.mono (by decide)) T.m__law_chip_deed T.F__law_chip_deed.kp T.b__law_chip_deed (EA.to (ea_cons (ee_var (i := 0) rfl) (ea_cons (ee_var (i := 5) rfl) (ea_cons (ee_var (i := 3) rfl) ea_nil))) ⟨[], _, rfl, .mk h.bd fun p hpf => wg_tupS (wgs_cons (wg_name (i := 6) (wgs_cons (wg_name (i := 7) (wgs_nil ?_) sc__law_chip_written.nd)) sc__law_chip_written.nd))⟩)))
  generalize hr : o.deed (i / o.pg) o.word.1 = r at hp ⊢
  generalize hw : o.word = wd at hp hwk ⊢
  obtain ⟨o1, told⟩ := r
  dsimp only at hp
  show WSs _ _ _ ((p, OV.ds (pyK o1.d)) :: m) _
  by_cases hb : i / o.pg ∈ o.bad
  · rw [if_pos hb] at hp
    refine wss_cons (ws_ife (k := false) (ET.is (et_cmp (ee_var (i := 5) rfl) (ee_getD (k := .inr "bad") (hu_of rm.r) (ee_var (i := 0) rfl) ee_str gk_bad) (by walk_at "cd")) (by rw [decide_eq_true hb]; rfl)) (fun z => nomatch z) fun _ => wss_nil ?_)
    exact wss_sealD (i := 6) rfl (wss_one (ws_retE (ee_tup (eap_cons (ee_var (i := 6) rfl) (eap_cons (ee_var (i := 7) rfl) eap_nil))) hp))
  · rw [if_neg hb] at hp
    refine wss_mid (fun ds1 m1 => (∃ y, ds1 = [some (Dd o.d), some (I i), some (S t), some (S wd.1), some (S wd.2), some (I (i / o.pg)), some (.raw (.ref p)), some (.py told), y]) ∧ m1 = (p, .ds (pyK { o1 with cells := o.cells.set i.toNat (if wd.1 = [] then t else tornL t wd.2), wr := if wd.1 = [] then putW o.wr i t else o.wr }.d)) :: m)
      (ws_ife (k := true) (ET.is (et_cmp (ee_var (i := 5) rfl) (ee_getD (k := .inr "bad") (hu_of rm.r) (ee_var (i := 0) rfl) ee_str gk_bad) (by walk_at "cd")) (by rw [decide_eq_false hb]; rfl)) (fun _ => ?_) fun z => nomatch z) ?_
    · refine wss_cons (ws_set (i := 8) sc__law_chip_written.nd (we_listLO (ee_getD (k := .inr "cells") (hu_of rm.r) (ee_var (i := 0) rfl) ee_str gk_cells) (fun pc hpc => ?_) T.m_list bo_list))
      refine wss_cons (ws_storeW (p := pc) (EE.to (ee_if (k := decide (wd.1 = [])) (d := S (if wd.1 = [] then t else tornL t wd.2)) (et_cmp (ee_var (i := 3) rfl) (ee_strS (l := [])) (by walk_at "cd")) (fun hk => ?_) (fun hk => ?_)) ⟨_, rfl, EE.to (ee_var (i := 8) rfl) ⟨rfl, EE.to (ee_var (i := 1) rfl) ⟨i, _, rfl, List.mem_cons_self, hi.1, by rw [List.length_map]; omega, ?_⟩⟩⟩))
      · rw [if_pos (of_decide_eq_true hk)]; exact (ee_var (i := 2) rfl)
      · have hk := of_decide_eq_false hk
        rw [if_neg hk]
        rcases hwk with z | ⟨z1, z2, z3, z4⟩
        · exact absurd z.1 hk
        · exact (eg_call (ok__law_chip_torn T) (rm.mono (by decide)) T.m__law_chip_torn T.F__law_chip_torn.kp T.b__law_chip_torn (ea_cons (ee_var (i := 2) rfl) (ea_cons (ee_var (i := 4) rfl) ea_nil)) (.mk ht.1 z2 z3 ⟨by omega, by omega⟩))
      rw [set_txts, mset_hd hpc]
      refine wss_seal (i := 8) rfl ?_
      refine wss_cons (ws_asg (js := []) (we_tupS (wa_cons (EE.to (ee_var (i := 8) rfl) (wa_cons (we_dictPr (l := wrK o.wr) (EE.to (ee_litems rfl T.m_list (ee_getD (k := .inr "written") (hu_of rm.r) (ee_var (i := 0) rfl) ee_str gk_written)) ⟨rfl, fun pw hpw => wa_nil ⟨by show 2 ≤ 1000000; decide, ?_⟩⟩) rfl T.m_dict bo_dict))))))
      rw [mrg_wr h.wk]
      have hne : pw ≠ p := fun z => hpw (by rw [z]; exact List.mem_cons_self)
      refine wg_tupS (wgs_cons (js := []) (ks := []) (wg_putD (k := .inr "cells") (l := pyK o1.d) (hu_of rm.r) (ee_var (i := 6) rfl) ee_str (List.mem_cons_of_mem _ List.mem_cons_self) own_lt ?_))
      rw [mset_2 hne hpf, sk_cells]
      refine wgs_cons (js := []) (ks := []) (wg_putD (k := .inr "written") (l := pyK { o1 with cells := o.cells.set i.toNat (if wd.1 = [] then t else tornL t wd.2) }.d) (hu_of rm.r) (ee_var (i := 6) rfl) ee_str (List.mem_cons_of_mem _ List.mem_cons_self) own_lt ?_)
      rw [mset_2 hne hpf, sk_wraw]
      refine wgs_nil ?_
      have hwl := h.wr
      by_cases hk : wd.1 = []
      · rw [if_pos hk, if_pos hk]
        refine wss_one (ws_ife (k := true) (ET.is (et_cmp (ee_var (i := 3) rfl) (ee_strS (l := [])) (by walk_at "cd")) (decide_eq_true hk)) (fun _ => ?_) fun z => nomatch z)
        refine wss_cons (ws_putDW (hu_of rm.r) (EE.to (ee_var (i := 2) rfl) (we_getD (k := .inr "written") (hu_of rm.r) (ee_var (i := 6) rfl) ee_str (List.mem_cons_of_mem _ List.mem_cons_self) (gk_wraw pw) ⟨rfl, EE.to (ee_var (i := 1) rfl) ⟨.inl i, _, rfl, List.mem_cons_self, by rw [pyK_len, wrK_len]; omega, ?_⟩⟩)))
        rw [setK_pyK, wrK_put, mset_hd2 hne fun z => hpw (List.mem_cons_of_mem _ z)]
        refine wss_sealIn List.mem_cons_self (gk_wraw pw) (dR_nd pw) ?_
        rw [mset_hd hpf, dR_seal]
        exact wss_nil ⟨⟨_, rfl⟩, rfl⟩
      · rw [if_neg hk, if_neg hk]
        refine wss_one (ws_ife (k := false) (ET.is (et_cmp (ee_var (i := 3) rfl) (ee_strS (l := [])) (by walk_at "cd")) (decide_eq_false hk)) (fun z => nomatch z) fun _ => ?_)
        refine wss_sealIn List.mem_cons_self (gk_wraw pw) (dR_nd pw) ?_
        rw [mset_hd hpf, dR_seal]
        exact wss_nil ⟨⟨_, rfl⟩, rfl⟩
    · rintro ds1 m1 ⟨⟨y, rfl⟩, rfl⟩
      exact wss_sealD (i := 6) rfl (wss_one (ws_retE (ee_tup (eap_cons (ee_var (i := 6) rfl) (eap_cons (ee_var (i := 7) rfl) eap_nil))) hp))
end
end K15
end W9
namespace W9
namespace K15
open PySem PySem.Spec PyProof.Rows L2
local macro_rules | `(tactic| walk_at "sz") => `(tactic| first | assumption | omega | decide | (simp only [List.length_append, List.length_map, List.length_zipIdx, List.length_cons, List.length_nil, List.length_replicate, List.length_range, List.length_zip, List.length_take, List.length_drop]; omega) | (simp; omega) | (simp; done))
local macro_rules | `(tactic| walk_at "bd") => `(tactic| first | exact bd_add | exact bd_sub | exact bd_mul (by omega) | exact bd_mod (by omega) | exact bd_mod (by decide +kernel) | exact bd_pow (by omega) | exact bd_powX (by decide +kernel) | exact bd_div (by omega) | exact bd_addS (by walk_at "sz") | exact bd_mulS (by walk_at "sz") | exact bd_catL (by walk_at "sz"))
local macro_rules | `(tactic| walk_at "cd") => `(tactic| first | exact cd_lt | exact cd_le | exact cd_gt | exact cd_ge | exact cd_eq | exact cd_ne | exact cd_isN | exact cd_notN | exact cd_eqS | exact cd_neS | exact cd_ltS | exact cd_inS | exact cd_notinS | exact cd_inTs (Rm.mono (by assumption) (by decide)) (by assumption) (by assumption) | exact cd_notinTs | exact cd_eqT | exact cd_neT | exact cd_notinI (Rm.mono (by assumption) (by decide)))
local macro_rules | `(tactic| walk_at "ca") => `(tactic| first | exact ca_isiD (by simp) | exact ca_lenS (by walk_at "sz") | exact ca_lenL | exact ca_lenT | exact ca_allm rfl | exact ca_int | exact ca_intB | exact ca_abs | exact ca_max2 rfl | exact ca_min2 rfl | exact ca_sum rfl | exact ca_tupL | exact ca_listL | exact ca_listT | exact ca_maxS rfl | exact ca_listS rfl (by walk_at "sz"))
local macro_rules | `(tactic| walk_at "sl") => `(tactic| first | exact sl_S (by walk_at "sz") | exact sl_L | exact sl_T)
local macro_rules | `(tactic| walk_at "rg") => `(tactic| omega)
local macro_rules | `(tactic| walk_at "asc") => `(tactic| first | assumption | exact HexL.asc (by assumption))
local macro_rules | `(tactic| walk_at "sd") => `(tactic| first | exact sd_tup (by rfl) | exact sd_lst (by rfl) | exact sd_tup (at_nn (by decide) (by rfl)) | exact sd_lst (at_nn (by decide) (by rfl)))
local macro_rules | `(tactic| walk_at "call _law_chip_fault") => `(tactic| exact .mk (by assumption))
local macro_rules | `(tactic| walk_at "call _law_is_int") => `(tactic| exact .mk)
local macro_rules | `(tactic| walk_at "call _law_chip_is_cells") => `(tactic| exact .mk (by assumption))
local macro_rules | `(tactic| walk_at "md") => `(tactic| first | exact md_hexc (by assumption) | exact md_joinS (by walk_at "sz"))
inductive R__law_chip_erased : List SD → SD → Prop
  | mk {o : Own} {b : Int} (h : WfO o) (hi : 0 ≤ b ∧ b < o.bl) : R__law_chip_erased [Dd o.d, I b] (Tp [dictP (o.erased b).1.d, (o.erased b).2])
inductive R__law_chip_can_fade : List SD → SD → Prop
  | mk {o : Own} {i : Int} {cell sign : PyData} (h : WfO o) (hi : 0 ≤ i ∧ i < o.bl * o.pg) (hg : gdB sign = true) : R__law_chip_can_fade [Dd o.d, I i, .py cell, .py sign] (B (o.canFade i cell sign))
inductive R__law_chip_faded : List SD → SD → Prop
  | mk {o : Own} {i k : Int} {u : List Nat} (h : WfO o) (hi : 0 ≤ i ∧ i < o.bl * o.pg) (hk : 0 ≤ k ∧ k ≤ 255) (hu : u.length = 1) : R__law_chip_faded [Dd o.d, I i, I k, S u] (Dd (o.faded i (.int k) (tx u)).d)
theorem Rm.bk {X : Cx} {k : Nat} {scope : Scope} {s : Shared} {H : Hp} {C : Addr} {cl : List (Str × Addr)} {fp : List Addr} (h : Rm k X.A) : Rm 0 (Blk X scope s H C cl fp).A := h.mono (Nat.zero_le _)
theorem ownEraseN_ok {o : Own} (hw : (o.word.1 = [] ∧ o.word.2 = []) ∨ ((o.word.1 = cutL ∨ o.word.1 = badL) ∧ HexL o.word.2 ∧ o.word.2 ≠ [] ∧ o.word.2.length ≤ 256)) {lo : Int} {s : List (List Nat)} (h : ∀ t ∈ s, HexL t ∧ t.length = 256) (hlo : 0 ≤ lo) : ∀ n : Nat, lo + (n : Int) ≤ s.length → ∀ t ∈ ownEraseN o.word lo s n, HexL t ∧ t.length = 256
  | 0, _ => h
  | n + 1, hn => by
    have ih := ownEraseN_ok hw h hlo n (by omega)
    rw [ownEraseN_succ]
    unfold ownErase
    have hg := getD_ok ih (i := (lo + (n : Int)).toNat) (by rw [ownEraseN_len]; omega)
    refine set_ok ih ?_
    by_cases hk : o.word.1 = []
    · rw [if_pos hk]; exact empty_hex
    · rw [if_neg hk]
      rcases hw with z | ⟨z1, z2, z3, z4⟩
      · exact absurd z.1 hk
      · exact ⟨hg.1.torn z2 z3, by rw [tornL_len]; exact hg.2⟩
section
variable {P : Program} {w : World} {K : PySem.W.Frag} {mg : Str → Option Value} {base : Heap}
theorem ok__law_chip_erased (T : Tx P K mg) : FnG P w K mg base CX0 6 T.a__law_chip_erased T.d__law_chip_erased ["own", "block"] (SpD K (pureF R__law_chip_erased)) := by
  refine fnD_okA (W9.Fun.toA T.F__law_chip_erased) sc__law_chip_erased (fun xs m Pp ⟨d, h, _⟩ => by cases h <;> rfl) (fun cdv A outer s H E hcd rm xs m Pp ⟨d, hR, hp⟩ => ?_)
  cases hR with | @mk o b h hi =>
  obtain ⟨b1, b2, b3, b4⟩ := h.b
  have hfs := h.fs
  have hcl := h.cl
  have hwl := h.wl
  have hwk := word_ok hfs
  have hok := fun (n : Nat) (hn : b * o.pg + (n : Int) ≤ o.cells.length) => ownEraseN_ok hwk h.ce (Int.mul_nonneg hi.1 (by omega)) n hn
  refine wss_cons (ws_asg (js := [2, 3]) (EE.to (eg_call (ok__law_chip_fault T) (rm.mono (by decide)) T.m__law_chip_fault T.F__law_chip_fault.kp T.b__law_chip_fault (ea_cons (ee_var (i := 0) rfl) ea_nil) (by walk_at "call _law_chip_fault")) ?_))
  refine wg_tup (wgs_cons (wg_name (i := 2) (wgs_cons (wg_name (i := 3) (wgs_nil ?_) sc__law_chip_erased.nd)) sc__law_chip_erased.nd))
  unfold Own.erased at hp
  dsimp only at hp
  refine wss_cons (ws_asg (js := [4, 5]) (wg_call (ok__law_chip_deed T) (rm.mono (by decide)) T.m__law_chip_deed T.F__law_chip_deed.kp T.b__law_chip_deed (EA.to (ea_cons (ee_var (i := 0) rfl) (ea_cons (ee_var (i := 1) rfl) (ea_cons (ee_var (i := 2) rfl) ea_nil))) ⟨[], _, rfl, .mk h.bd fun p hpf => wg_tupS (wgs_cons (wg_name (i := 4) (wgs_cons (wg_name (i := 5) (wgs_nil ?_) sc__law_chip_erased.nd)) sc__law_chip_erased.nd))⟩)))
  generalize hr : o.deed b o.word.1 = r at hp ⊢
  generalize hw : o.word = wd at hp hwk hok ⊢
  obtain ⟨o1, told⟩ := r
  dsimp only at hp
  show WSs _ _ _ ((p, OV.ds (pyK o1.d)) :: m) _
  by_cases hb : b ∈ o.bad
  · rw [if_pos hb] at hp
    refine wss_cons (ws_ife (k := false) (ET.is (et_cmp (ee_var (i := 1) rfl) (ee_getD (k := .inr "bad") (hu_of rm.r) (ee_var (i := 0) rfl) ee_str gk_bad) (by walk_at "cd")) (by rw [decide_eq_true hb]; rfl)) (fun z => nomatch z) fun _ => wss_nil ?_)
    exact wss_sealD (i := 4) rfl (wss_one (ws_retE (ee_tup (eap_cons (ee_var (i := 4) rfl) (eap_cons (ee_var (i := 5) rfl) eap_nil))) hp))
  · rw [if_neg hb] at hp
    have hbw : 0 ≤ b * o.pg ∧ b * o.pg ≤ 1024 := ⟨Int.mul_nonneg hi.1 (by omega), by
      have z1 : b * o.pg ≤ 63 * o.pg := Int.mul_le_mul_of_nonneg_right (by omega) (by omega)
      omega⟩
    have hbe : (b + 1) * o.pg = b * o.pg + o.pg := by rw [Int.add_mul, Int.one_mul]
    have htop : b * o.pg + o.pg ≤ o.bl * o.pg := by
      rw [← hbe]
      exact Int.mul_le_mul_of_nonneg_right (by omega) (by omega)
    have hm1 : (-(2 ^ 64) < b ∧ b < 2 ^ 64) := by omega
    have hm2 : (-(2 ^ 64) < b + 1 ∧ b + 1 < 2 ^ 64) := by omega
    have hrn : ((b + 1) * o.pg - b * o.pg).toNat = o.pg.toNat := by rw [hbe]; congr 1; omega
    let ps : List Int := (List.range o.pg.toNat).map fun (k : Nat) => b * o.pg + (k : Int)
    refine wss_mid (fun ds1 m1 => (∃ y1 y2 y3 y4 y5, ds1 = [some (Dd o.d), some (I b), some (S wd.1), some (S wd.2), some (.raw (.ref p)), some (.py told), y1, y2, y3, y4, y5]) ∧ m1 = (p, .ds (pyK { o1 with cells := ownEraseN wd (b * o.pg) o.cells o.pg.toNat, wear := o.wear.set b.toNat (o.wear.getD b.toNat 0 + 1), wr := o.wr.filter fun q => !decide (q.1 ∈ ps) }.d)) :: m)
      (ws_ife (k := true) (ET.is (et_cmp (ee_var (i := 1) rfl) (ee_getD (k := .inr "bad") (hu_of rm.r) (ee_var (i := 0) rfl) ee_str gk_bad) (by walk_at "cd")) (by rw [decide_eq_false hb]; rfl)) (fun _ => ?_) fun z => nomatch z) ?_
    · refine wss_cons (ws_par (i := 6) (j := 7) sc__law_chip_erased.nd (wa_cons (we_listLO (ee_getD (k := .inr "cells") (hu_of rm.r) (ee_var (i := 0) rfl) ee_str gk_cells) (fun pc hpc => wa_cons (we_listLO (ee_getD (k := .inr "wear") (hu_of rm.r) (ee_var (i := 0) rfl) ee_str gk_wear) (fun pw hpw => wa_nil ⟨_, _, rfl, ?_⟩) T.m_list bo_list)) T.m_list bo_list)))
      have hnp : pc ≠ p := fun z => hpc (by rw [z]; exact List.mem_cons_self)
      have hcm : pc ∉ ad m := fun z => hpc (List.mem_cons_of_mem _ z)
      have hnw : pw ≠ pc := fun z => hpw (by rw [z]; exact List.mem_cons_self)
      have hwm : pw ∉ ad ((p, OV.ds (pyK o1.d)) :: m) := fun z => hpw (List.mem_cons_of_mem _ z)
      refine wss_cons (ws_setE (i := 8) sc__law_chip_erased.nd (d := Ls (ps.map .int)) (EE.is (ee_listRg2 (ee_bin (ee_var (i := 1) rfl) (ee_getD (k := .inr "pages") (hu_of rm.r) (ee_var (i := 0) rfl) ee_str gk_pages) (by walk_at "bd")) (ee_bin (ee_bin (ee_var (i := 1) rfl) ee_int (by walk_at "bd")) (ee_getD (k := .inr "pages") (hu_of rm.r) (ee_var (i := 0) rfl) ee_str gk_pages) (by walk_at "bd")) ⟨hbw.1, by rw [hbe]; omega, by rw [hbe]; omega⟩ T.m_list T.m_range) (by rw [hrn])) ?_)
      refine wss_cons (ws_for (js := [9]) ((ei_lst (ee_var (i := 8) rfl)).to ⟨fun n ds1 m1 => (∃ y, ds1 = [some (Dd o.d), some (I b), some (S wd.1), some (S wd.2), some (.raw (.ref p)), some (.py told), some (.raw (.ref pc)), some (.raw (.ref pw)), some (Ls (ps.map .int)), y, none]) ∧ m1 = (pw, .dl (o.wear.map .int)) :: (pc, .dl (txts (ownEraseN wd (b * o.pg) o.cells n))) :: (p, .ds (pyK o1.d)) :: m, ⟨⟨_, rfl⟩, rfl⟩, ?_, ?_⟩))
      · rintro n x ds1 m1 hx ⟨⟨y, rfl⟩, rfl⟩
        rw [List.map_map, List.map_map] at hx
        obtain ⟨k, hk, rfl⟩ := map_get hx
        have hkn : k < o.pg.toNat := List.mem_range.mp (List.mem_of_getElem? hk)
        have hke : k = n := by
          have hl := (List.getElem?_eq_some_iff.mp hk).1
          rw [List.length_range] at hl
          rw [List.getElem?_range hl] at hk
          exact (Option.some.inj hk).symm
        subst hke
        show WG _ _ _ (I (b * o.pg + (k : Int))) _ _ _
        refine wg_name ?_ sc__law_chip_erased.nd
        have hp0 : 0 ≤ b * o.pg + (k : Int) := by omega
        have hcs := hok k (by omega)
        have hln : (ownEraseN wd (b * o.pg) o.cells k).length = o.cells.length := ownEraseN_len
        have hlt : (b * o.pg + (k : Int)).toNat < (ownEraseN wd (b * o.pg) o.cells k).length := by omega
        have hto := getD_ok hcs hlt
        have hsucc := ownEraseN_succ (w := wd) (lo := b * o.pg) (s := o.cells) (n := k)
        unfold ownErase at hsucc
        generalize ownEraseN wd (b * o.pg) o.cells k = cs at hsucc hlt hto hln ⊢
        refine wss_one (ws_storeW (p := pc) (we_view (i := 6) (p := pc) (l := txts cs) (d := tx (if wd.1 = [] then emptyL else tornL (cs.getD (b * o.pg + (k : Int)).toNat []) wd.2)) rfl (List.mem_cons_of_mem _ List.mem_cons_self)
          (ee_if (k := decide (wd.1 = [])) (et_cmp (ee_var (i := 2) rfl) (ee_strS (l := [])) (by walk_at "cd")) (fun hk2 => ?_) (fun hk2 => ?_)) sc_str ⟨_, rfl, EE.to (ee_var (i := 6) rfl) ⟨rfl, EE.to (ee_var (i := 9) rfl) ⟨_, _, rfl, List.mem_cons_of_mem _ List.mem_cons_self, hp0, by rw [List.length_map]; omega, ?_⟩⟩⟩))
        · rw [if_pos (of_decide_eq_true hk2)]; exact EE.is (ee_bin (ee_strS (l := [102])) ee_int (by walk_at "bd")) (congrArg S (rep_one 256 102))
        · have hk2 := of_decide_eq_false hk2
          rw [if_neg hk2]
          rcases hwk with z | ⟨z1, z2, z3, z4⟩
          · exact absurd z.1 hk2
          · exact eg_call (ok__law_chip_torn T) (rm.mono (by decide)) T.m__law_chip_torn T.F__law_chip_torn.kp T.b__law_chip_torn (ea_cons (ee_sub (ee_var (i := 6) rfl) (ee_var (i := 9) rfl) (fun m => sd_lst (at_nn hp0 (txts_get hlt)))) (ea_cons (ee_var (i := 3) rfl) ea_nil)) (.mk hto.1 z2 z3 ⟨by omega, by omega⟩)
        · rw [set_txts, mset_2 hnw hpc, ← hsucc]
          exact ⟨⟨_, rfl⟩, rfl⟩
      · rintro ds1 m1 ⟨⟨y, rfl⟩, rfl⟩
        rw [List.length_map, List.length_map, List.length_map, List.length_range]
        have hbl : b.toNat < o.wear.length := by omega
        refine wss_cons (ws_storeV (i := 7) (l := o.wear.map .int) (j := b) (d := .int (o.wear.getD b.toNat 0 + 1)) hpw rfl (ee_var (i := 7) rfl) (ee_var (i := 1) rfl) (ee_bin (ee_sub (ee_var (i := 7) rfl) (ee_var (i := 1) rfl) (fun m => sd_lst (at_nn hi.1 (ints_get' hbl)))) ee_int bd_add) sc_int hi.1 (by rw [List.length_map]; omega) ?_)
        rw [set_ints]
        refine wss_seal (i := 7) rfl (wss_seal (i := 6) rfl ?_)
        refine wss_cons (ws_asg (js := []) (EE.to (ee_tup (eap_cons (ee_var (i := 6) rfl) (eap_cons (ee_var (i := 7) rfl) eap_nil))) ?_))
        refine wg_tup (wgs_cons (js := []) (ks := []) (wg_putD (k := .inr "cells") (l := pyK o1.d) (hu_of rm.r) (ee_var (i := 4) rfl) ee_str List.mem_cons_self own_lt ?_))
        rw [mset_hd hpf, sk_cells]
        refine wgs_cons (js := []) (ks := []) (wg_putD (k := .inr "wear") (l := pyK { o1 with cells := ownEraseN wd (b * o.pg) o.cells o.pg.toNat }.d) (hu_of rm.r) (ee_var (i := 4) rfl) ee_str List.mem_cons_self own_lt ?_)
        rw [mset_hd hpf, sk_wear]
        refine wgs_nil ?_
        have hwrl := h.wr
        refine wss_one (ws_putD (k := .inr "written") (hu_of rm.r) (ee_var (i := 4) rfl) ee_str (we_lock (we_dictPr (l := wrK (o.wr.filter fun q => !decide (q.1 ∈ ps))) (we_lcG o.wr (fun q => Tp [.int q.1, tx q.2]) (fun q => !decide (q.1 ∈ ps)) (fun q => .tuple [.int q.1, tx q.2]) (fun q ds => (ds.set 9 (some (I q.1))).set 10 (some (S q.2))) [("place", 9), ("cells", 10)] rfl sc__law_chip_erased.nd
          (EI.to (ei_ditems (ee_getD (k := .inr "written") (hu_of rm.r) (ee_var (i := 0) rfl) ee_str gk_written)) ⟨by unfold prK wrK; rw [List.map_map, List.map_map]; rfl, rfl⟩) (by omega)
          (fun q _ s H Ce cl fp ds m Q hq => wg_tup (wgs_cons (wg_name (wgs_cons (wg_name (wgs_nil hq) sc__law_chip_erased.nd)) sc__law_chip_erased.nd)))
          (fun q _ s H Ce cl fp Q hq => wts_one (ET.to (et_cmp (ee_var (i := 9) rfl) (ee_var (i := 8) rfl) (cd_notinI (Rm.bk rm))) hq)) (fun q _ _ s H Ce cl fp Q hq => EE.to (ee_tup (eap_cons (ee_var (i := 9) rfl) (eap_cons (ee_var (i := 10) rfl) eap_nil))) hq) (blkOk_by (by rfl)) ⟨by unfold prK wrK; rw [List.map_map]; rfl, fun pr hpr => ⟨pr, _, _, rfl, by rw [mrg_wr (List.Pairwise.sublist (List.Sublist.map _ (List.filter_sublist)) h.wk)], _, List.mem_cons_self, own_lt, ?_⟩⟩) rfl T.m_dict bo_dict)))
        rw [mset_hd hpf, sk_written]
        exact ⟨⟨_, _, _, _, _, rfl⟩, rfl⟩
    · rintro ds1 m1 ⟨⟨y1, y2, y3, y4, y5, rfl⟩, rfl⟩
      exact wss_sealD (i := 4) rfl (wss_one (ws_retE (ee_tup (eap_cons (ee_var (i := 4) rfl) (eap_cons (ee_var (i := 5) rfl) eap_nil))) hp))
theorem ok__law_chip_can_fade (T : Tx P K mg) : FnG P w K mg base CX0 6 T.a__law_chip_can_fade T.d__law_chip_can_fade ["own", "place", "cell", "sign"] (SpD K (pureF R__law_chip_can_fade)) := by
  refine fnD_okA (W9.Fun.toA T.F__law_chip_can_fade) sc__law_chip_can_fade (fun xs m Pp ⟨d, h, _⟩ => by cases h <;> rfl) (fun cdv A outer s H E hcd rm xs m Pp ⟨d, hR, hp⟩ => ?_)
  cases hR with | @mk o i cell sign h hi hg =>
  unfold Own.canFade at hp
  have hcl := h.cl
  have hlt : i.toNat < o.cells.length := by omega
  by_cases h0 : (intB 0 255 cell && cellsB 1 1 sign) = true
  · rw [h0, if_neg (fun z => nomatch z)] at hp
    rw [Bool.and_eq_true] at h0
    obtain ⟨k, rfl, k1, k2⟩ := intB_of h0.1
    obtain ⟨u, rfl, u1, u2, uh⟩ := cellsB_of h0.2
    have hc := getD_ok h.ce hlt
    refine wss_cons (ws_ife (k := false) (ET.is (et_w (ew_or (et_not (et_val (eg_call (ok__law_is_int T) (rm.mono (by decide)) T.m__law_is_int T.F__law_is_int.kp T.b__law_is_int (ea_cons (ee_var (i := 2) rfl) (ea_cons ee_int (ea_cons ee_int ea_nil))) (by walk_at "call _law_is_int")))) fun _ => ew_or1 (et_not (et_val (eg_call (ok__law_chip_is_cells T) (rm.mono (by decide)) T.m__law_chip_is_cells T.F__law_chip_is_cells.kp T.b__law_chip_is_cells (ea_cons (ee_var (i := 3) rfl) (ea_cons ee_int (ea_cons ee_int ea_nil))) (by walk_at "call _law_chip_is_cells")))))) (by show (!intB 0 255 (.int k) || !cellsB 1 1 (tx u)) = false; rw [h0.1, h0.2]; rfl)) (fun z => nomatch z) fun _ => wss_nil ?_)
    rw [strL_tx] at hp
    refine wss_cons (ws_setE (i := 4) sc__law_chip_can_fade.nd (d := S (o.cells.getD i.toNat [])) (ee_sub (ee_getD (k := .inr "cells") (hu_of rm.r) (ee_var (i := 0) rfl) ee_str gk_cells) (ee_var (i := 1) rfl) (fun m => sd_lst (at_nn hi.1 (txts_get hlt)))) ?_)
    generalize o.cells.getD i.toNat [] = t at hp hc ⊢
    refine wss_cons (ws_ife (k := decide (t = emptyL) || !decide (wrGet o.wr i = t)) (et_w (ew_or (ET.is (et_cmp (ee_var (i := 4) rfl) (EE.is (ee_bin (ee_strS (l := [102])) ee_int (by walk_at "bd")) (congrArg S (rep_one 256 102))) cd_eqS) rfl) fun _ => ew_or1 (et_cmp (fun m => we_get2D (k := .inl i) (l := pyK (wrK o.wr)) (hu_of rm.r) (dk_dat (ee_getD (k := .inr "written") (hu_of rm.r) (ee_var (i := 0) rfl) ee_str gk_written)) (ee_var (i := 1) rfl) (ee_strS (l := [])) ⟨wr_get, rfl⟩) (ee_var (i := 4) rfl) cd_neS))) (fun hk => ?_) fun hk => wss_nil ?_)
    · rw [if_pos] at hp
      · exact wss_one (ws_retE ee_bl hp)
      · rw [Bool.or_eq_true] at hk
        rcases hk with z | z
        · exact .inl (of_decide_eq_true z)
        · exact .inr (of_decide_eq_false (not_t z))
    · rw [if_neg] at hp
      · have hul : u.length = 1 := by omega
        obtain ⟨c, rfl⟩ : ∃ c, u = [c] := by
          match u, hul with
          | [c], _ => exact ⟨c, rfl⟩
        have hch : c ∈ hexS := uh c List.mem_cons_self
        have hkl : k.toNat < t.length := by rw [hc.2]; omega
        have hks : t[k.toNat]? = some (t.getD k.toNat 0) := by rw [List.getD_eq_getElem?_getD, List.getElem?_eq_getElem hkl]; rfl
        have hdh : t.getD k.toNat 0 ∈ hexS := hc.1 _ (List.mem_of_getElem? hks)
        have hp : Pp (B (decide (c < t.getD k.toNat 0))) m := hp
        generalize t.getD k.toNat 0 = d at hp hks hdh
        have ho := hex_ord c hch d hdh
        refine wss_one (ws_retE (EE.is (ee_cmp (ee_meth PySem.F.plainAttrs_str PySem.F.slot_str_index PySem.F.type_str_index (ee_strS (l := [48, 49, 50, 51, 52, 53, 54, 55, 56, 57, 97, 98, 99, 100, 101, 102])) (ea_cons (ee_var (i := 3) rfl) ea_nil) (fun m => by walk_at "md")) (ee_meth PySem.F.plainAttrs_str PySem.F.slot_str_index PySem.F.type_str_index (ee_strS (l := [48, 49, 50, 51, 52, 53, 54, 55, 56, 57, 97, 98, 99, 100, 101, 102])) (ea_cons (ee_sub (ee_var (i := 4) rfl) (ee_var (i := 2) rfl) (fun m => sd_str (at_nn k1 hks) (by omega))) ea_nil) (fun m => md_hexc hdh)) cd_lt) (B_eq (decide_eq_decide.mpr ?_))) hp)
        constructor
        · intro z
          exact Decidable.not_not.mp fun q => absurd (ho.mpr q) (by omega)
        · intro z
          have := fun q => ho.mp q z
          omega
      · intro z
        rw [Bool.or_eq_false_iff] at hk
        rcases z with z | z
        · exact absurd z (of_decide_eq_false hk.1)
        · exact z (of_decide_eq_true (not_f hk.2))
  · have h0 : (intB 0 255 cell && cellsB 1 1 sign) = false := by simpa using h0
    rw [h0, if_pos rfl] at hp
    refine wss_cons (ws_ife (k := true) (ET.is (et_w (ew_or (et_not (et_val (eg_call (ok__law_is_int T) (rm.mono (by decide)) T.m__law_is_int T.F__law_is_int.kp T.b__law_is_int (ea_cons (ee_var (i := 2) rfl) (ea_cons ee_int (ea_cons ee_int ea_nil))) (by walk_at "call _law_is_int")))) fun _ => ew_or1 (et_not (et_val (eg_call (ok__law_chip_is_cells T) (rm.mono (by decide)) T.m__law_chip_is_cells T.F__law_chip_is_cells.kp T.b__law_chip_is_cells (ea_cons (ee_var (i := 3) rfl) (ea_cons ee_int (ea_cons ee_int ea_nil))) (by walk_at "call _law_chip_is_cells")))))) ?_) (fun _ => wss_one (ws_retE ee_bl hp)) fun z => nomatch z)
    show (!intB 0 255 cell || !cellsB 1 1 sign) = true
    revert h0
    cases intB 0 255 cell <;> cases cellsB 1 1 sign <;> simp
theorem ok__law_chip_faded (T : Tx P K mg) : FnG P w K mg base CX0 3 T.a__law_chip_faded T.d__law_chip_faded ["own", "place", "cell", "sign"] (SpD K (pureF R__law_chip_faded)) := by
  refine fnD_okA (W9.Fun.toA T.F__law_chip_faded) sc__law_chip_faded (fun xs m Pp ⟨d, h, _⟩ => by cases h <;> rfl) (fun cdv A outer s H E hcd rm xs m Pp ⟨d, hR, hp⟩ => ?_)
  cases hR with | @mk o i k u h hi hk hu =>
  have hcl := h.cl
  have hlt : i.toNat < o.cells.length := by omega
  have hc := (getD_ok h.ce hlt).2
  refine wss_cons (ws_par (i := 4) (j := 5) sc__law_chip_faded.nd (wa_cons (we_dictPr (l := o.d) (EE.to (ee_litems rfl T.m_list (ee_var (i := 0) rfl)) ⟨rfl, fun p hpf => wa_cons (we_listLO (ee_getD (k := .inr "cells") (hu_of rm.r) (ee_var (i := 0) rfl) ee_str gk_cells) (fun pc hpc => wa_nil ⟨_, _, rfl, ?_⟩) T.m_list bo_list)⟩) rfl T.m_dict bo_dict)))
  rw [mrg_own] at hpc
  rw [mrg_own]
  have hct : ∀ lo hi, (cut (o.cells.getD i.toNat []) lo hi).length ≤ 1000 := fun lo hi => by unfold cut; rw [List.length_take, List.length_drop]; omega
  have e1 : ((tx u) : PyData) = tx u := rfl
  refine wss_cons (ws_storeV (i := 5) (l := txts o.cells) (j := i) (d := tx (fadeT (o.cells.getD i.toNat []) k u)) hpc rfl (ee_var (i := 5) rfl) (ee_var (i := 1) rfl) (EE.is (ee_bin (ee_bin (ee_slice (ee_sub (ee_var (i := 5) rfl) (ee_var (i := 1) rfl) (fun m => sd_lst (at_nn hi.1 (txts_get hlt)))) eo_none (eo_some (ee_var (i := 2) rfl)) (fun m => sl_S (by omega))) (ee_var (i := 3) rfl) (bd_addS (by have := hct none (some k); omega))) (ee_slice (ee_sub (ee_var (i := 5) rfl) (ee_var (i := 1) rfl) (fun m => sd_lst (at_nn hi.1 (txts_get hlt)))) (eo_some (ee_bin (ee_var (i := 2) rfl) ee_int (by walk_at "bd"))) eo_none (fun m => sl_S (by omega))) (bd_addS (by have := hct none (some k); have := hct (some (k + 1)) none; rw [List.length_append]; omega))) (show _ = S (fadeT (o.cells.getD i.toNat []) k u) from rfl)) sc_str hi.1 (by rw [List.length_map]; omega) ?_)
  rw [set_txts]
  refine wss_seal (i := 5) rfl ?_
  refine wss_cons (ws_putD (k := .inr "cells") (hu_of rm.r) (ee_var (i := 4) rfl) ee_str (EE.to (ee_var (i := 5) rfl) ⟨_, List.mem_cons_self, own_lt, ?_⟩))
  rw [mset_hd hpf, sk_cells]
  have hp : Pp (Dd { o with cells := o.cells.set i.toNat (fadeT (o.cells.getD i.toNat []) k (strL (tx u))) }.d) m := hp
  rw [strL_tx] at hp
  exact wss_one (ws_ret (we_lock (EE.to (ee_var (i := 4) rfl) ⟨p, _, m, rfl, rfl, hp⟩)))
end
end K15
end W9
namespace W9
open PySem PySem.Spec PyProof.Rows L2
section
variable {X : Cx} {ds : DE} {m : MS} {a b c : Expr} {pos : Pos}
theorem ca_reprR {d : PyData} (hr : Rm 0 X.A) (r : Rep d) : CaD X (.builtin "repr") m [.py d] (.py (.str d.shown)) := ⟨_, call_repr_py hr.g (by have := hr.r.un; omega) r.dp r.sh r.nd (PyData.shown_fits_bulk (B := 13) (by decide) (by decide) r.lv r.bk), fun G H vs w r Q q => by
  cases r with
  | cons r1 r2 =>
    cases r2
    cases r1 with
    | py r1 => exact ⟨_, rfl, dp_mono w.w r1, q _ _ _ (.refl w) (.py (.str _))⟩⟩
/-- a or b as a test, step by step -/
theorem wt_or {P : Bool → MS → Prop} (h : WT X a ds m fun k m1 => if k = true then P true m1 else WT X b ds m1 P) : WT X (.BoolOp .Or [a, b] pos) ds m P := fun σ G H E w Q q => oT (pW _).pt (oW (pw_or (pT a) (pW _)) (by
  refine h σ G H E w _ fun k m1 G1 H1 g1 p => ?_
  cases k with
  | true =>
    rw [if_pos rfl] at p ⊢
    exact q _ _ _ _ g1 p
  | false =>
    rw [if_neg Bool.false_ne_true] at p ⊢
    exact oW (pw_or1 (pT b)) (p σ G1 H1 (E.mono g1.g) g1.wd _ fun k2 m2 G2 H2 g2 p2 => q _ _ _ _ (g1.trans g2) p2)))
end
theorem getK_mem {α : Type} {l : List (Key × α)} {q : Key × α} (nd : (l.map (·.1)).Nodup) (h : q ∈ l) : getK l q.1 = some q.2 := by
  obtain ⟨i, hi⟩ := List.mem_iff_getElem?.mp h
  exact getK_at (i := i) nd hi
/-! ### what is due -/
def wordE : Er → List Nat
  | .size => [115, 105, 122, 101]
  | .faults => [102, 97, 117, 108, 116, 115]
  | .place => [112, 108, 97, 99, 101]
  | .cells => [99, 101, 108, 108, 115]
  | .full => [102, 117, 108, 108]
  | .cut => [99, 117, 116]
  | .block => [98, 108, 111, 99, 107]
  | .fade => [102, 97, 100, 101]
  | .fault => [102, 97, 117, 108, 116]
  | .pending => [112, 101, 110, 100, 105, 110, 103]
abbrev Due : Type := Option (Er × PyData)
def dueP : Due → PyData
  | none => .none
  | some (e, d) => .tuple [tx (wordE e), d]
def marksL (e : Er) : List (Key × PyData) := [(.inr "size", .bool (decide (e = .size))), (.inr "faults", .bool (decide (e = .faults))), (.inr "place", .bool (decide (e = .place))), (.inr "cells", .bool (decide (e = .cells))), (.inr "full", .bool (decide (e = .full))),
  (.inr "cut", .bool (decide (e = .cut))), (.inr "block", .bool (decide (e = .block))), (.inr "fade", .bool (decide (e = .fade))), (.inr "fault", .bool (decide (e = .fault))), (.inr "pending", .bool (decide (e = .pending)))]
theorem marks_nd (e : Er) : ((marksL e).map (·.1)).Nodup := by
  show List.Nodup [(.inr "size" : Key), .inr "faults", .inr "place", .inr "cells", .inr "full", .inr "cut", .inr "block", .inr "fade", .inr "fault", .inr "pending"]
  decide +kernel
def isTr : PyData → Bool
  | .bool b => b
  | _ => false
theorem marks_bool {e : Er} {q : Key × PyData} (h : q ∈ marksL e) : q.2 = .bool (isTr q.2) := by
  unfold marksL at h
  simp only [List.mem_cons, List.not_mem_nil, or_false] at h
  rcases h with h | h | h | h | h | h | h | h | h | h <;> rw [h] <;> rfl
theorem marks_word (e : Er) : (((marksL e).filter fun q => isTr q.2).map fun q => keyP q.1) = txts [wordE e] := by
  cases e
  · exact congrArg (fun s => [PyData.str s]) (by decide +kernel : ("size" : Str) = ⟨[115, 105, 122, 101].toArray⟩)
  · exact congrArg (fun s => [PyData.str s]) (by decide +kernel : ("faults" : Str) = ⟨[102, 97, 117, 108, 116, 115].toArray⟩)
  · exact congrArg (fun s => [PyData.str s]) (by decide +kernel : ("place" : Str) = ⟨[112, 108, 97, 99, 101].toArray⟩)
  · exact congrArg (fun s => [PyData.str s]) (by decide +kernel : ("cells" : Str) = ⟨[99, 101, 108, 108, 115].toArray⟩)
  · exact congrArg (fun s => [PyData.str s]) (by decide +kernel : ("full" : Str) = ⟨[102, 117, 108, 108].toArray⟩)
  · exact congrArg (fun s => [PyData.str s]) (by decide +kernel : ("cut" : Str) = ⟨[99, 117, 116].toArray⟩)
  · exact congrArg (fun s => [PyData.str s]) (by decide +kernel : ("block" : Str) = ⟨[98, 108, 111, 99, 107].toArray⟩)
  · exact congrArg (fun s => [PyData.str s]) (by decide +kernel : ("fade" : Str) = ⟨[102, 97, 100, 101].toArray⟩)
  · exact congrArg (fun s => [PyData.str s]) (by decide +kernel : ("fault" : Str) = ⟨[102, 97, 117, 108, 116].toArray⟩)
  · exact congrArg (fun s => [PyData.str s]) (by decide +kernel : ("pending" : Str) = ⟨[112, 101, 110, 100, 105, 110, 103].toArray⟩)
theorem wordE_plain (e : Er) : Plain [wordE e] := fun w hw c hc => by
  rw [List.mem_singleton.mp hw] at hc
  revert c
  cases e <;> decide
def Own.wdue (o : Own) (place cells : PyData) : Due :=
  if intB 0 15 place = false then some (.place, place)
  else if cellsB 256 256 cells = false then some (.cells, cells)
  else if o.cells.getD (toI place).toNat [] ≠ emptyL then some (.full, place)
  else if o.on = true then none else some (.cut, .none)
def Own.later (o : Own) : List Int := (o.fs.filter fun q => decide (o.done < q.1)).map (·.1)
def Own.fdue (o : Own) (a w p : PyData) : Due :=
  if (intB 1 1000000000 a && (wordB w && cellsB 1 256 p)) = false then some (.fault, .tuple [a, w, p])
  else match srtI o.later with
    | i :: _ => some (.pending, .int i)
    | [] => none
theorem srt_head {l r : List Int} {i : Int} (h : srtI l = i :: r) : i ∈ l ∧ ∀ y ∈ l, i ≤ y := by
  have p := srtI_perm l
  have s := srtI_sorted l
  rw [h] at p s
  refine ⟨p.mem_iff.mp List.mem_cons_self, fun y hy => ?_⟩
  rcases List.mem_cons.mp (p.mem_iff.mpr hy) with e | e
  · rw [e]; exact Int.le_refl _
  · exact (List.pairwise_cons.mp s).1 y e
theorem srt_nil {l : List Int} (h : srtI l = []) : l = [] := by
  have p := srtI_perm l
  rw [h] at p
  exact List.Perm.nil_eq p |>.symm
end W9
namespace W9
namespace K15
open PySem PySem.Spec PyProof.Rows L2
local macro_rules | `(tactic| walk_at "sz") => `(tactic| first | assumption | omega | decide | (simp only [List.length_append, List.length_map, List.length_zipIdx, List.length_cons, List.length_nil, List.length_replicate, List.length_range, List.length_zip, List.length_take, List.length_drop]; omega) | (simp; omega) | (simp; done))
local macro_rules | `(tactic| walk_at "bd") => `(tactic| first | exact bd_add | exact bd_sub | exact bd_mul (by omega) | exact bd_mod (by omega) | exact bd_mod (by decide +kernel) | exact bd_pow (by omega) | exact bd_powX (by decide +kernel) | exact bd_div (by omega) | exact bd_addS (by walk_at "sz") | exact bd_mulS (by walk_at "sz") | exact bd_catL (by walk_at "sz"))
local macro_rules | `(tactic| walk_at "cd") => `(tactic| first | exact cd_lt | exact cd_le | exact cd_gt | exact cd_ge | exact cd_eq | exact cd_ne | exact cd_isN | exact cd_notN | exact cd_eqS | exact cd_neS | exact cd_ltS | exact cd_inS | exact cd_notinS | exact cd_inTs (Rm.mono (by assumption) (by decide)) (by assumption) (by assumption) | exact cd_notinTs | exact cd_eqT | exact cd_neT | exact cd_notinI (Rm.mono (by assumption) (by decide)))
local macro_rules | `(tactic| walk_at "ca") => `(tactic| first | exact ca_isiD (by simp) | exact ca_lenS (by walk_at "sz") | exact ca_lenL | exact ca_lenT | exact ca_allm rfl | exact ca_int | exact ca_intB | exact ca_abs | exact ca_max2 rfl | exact ca_min2 rfl | exact ca_sum rfl | exact ca_tupL | exact ca_listL | exact ca_listT | exact ca_maxS rfl | exact ca_listS rfl (by walk_at "sz"))
local macro_rules | `(tactic| walk_at "sl") => `(tactic| first | exact sl_S (by walk_at "sz") | exact sl_L | exact sl_T)
local macro_rules | `(tactic| walk_at "rg") => `(tactic| omega)
local macro_rules | `(tactic| walk_at "asc") => `(tactic| first | assumption | exact HexL.asc (by assumption))
local macro_rules | `(tactic| walk_at "sd") => `(tactic| first | exact sd_tup (by rfl) | exact sd_lst (by rfl) | exact sd_tup (at_nn (by decide) (by rfl)) | exact sd_lst (at_nn (by decide) (by rfl)))
local macro_rules | `(tactic| walk_at "call _law_is_int") => `(tactic| exact .mk)
local macro_rules | `(tactic| walk_at "call _law_chip_is_cells") => `(tactic| exact .mk (by assumption))
inductive R__law_write_due : List SD → SD → Prop
  | mk {o : Own} {place cells : PyData} (h : WfO o) (hb : o.bl = 4 ∧ o.pg = 4) (hg : gdB cells = true) : R__law_write_due [Dd o.d, .py place, .py cells] (.py (dueP (o.wdue place cells)))
inductive F__law_fault_drawn : FT
  | mk {p : Addr} {a b c : Int} {m : MS} {P : SD → MS → Prop} (ha : 0 ≤ a) (hb : PB b) (hc : 0 ≤ c ∧ c ≤ 90000) (hpf : p ∉ ad m)
      (h : ∀ (x w q : PyData) (a' c' : Int), gdB (.tuple [x, w, q]) = true → [x, w, q].all lfB = true → (toI x).natAbs ≤ 10 → 0 ≤ a' → (0 ≤ c' ∧ c' ≤ c + 3) → P (Tp [x, w, q]) (Pt p a' b c' :: m)) : F__law_fault_drawn [.raw (.ref p)] (Pt p a b c :: m) P
inductive R__law_fault_due : List SD → SD → Prop
  | mk {o : Own} {a w p : PyData} (h : WfO o) (ha : gdB w = true) (hg : gdB p = true) : R__law_fault_due [Dd o.d, Tp [a, w, p]] (.py (dueP (o.fdue a w p)))
section
variable {P : Program} {w : World} {K : PySem.W.Frag} {mg : Str → Option Value} {base : Heap}
theorem ok__law_write_due (T : Tx P K mg) : FnG P w K mg base CX0 6 T.a__law_write_due T.d__law_write_due ["own", "place", "cells"] (SpD K (pureF R__law_write_due)) := by
  refine fnD_okA (W9.Fun.toA T.F__law_write_due) sc__law_write_due (fun xs m Pp ⟨d, h, _⟩ => by cases h <;> rfl) (fun cdv A outer s H E hcd rm xs m Pp ⟨d, hR, hp⟩ => ?_)
  cases hR with | @mk o place cells h hb hg =>
  obtain ⟨hb1, hb2⟩ := hb
  have hcl := h.cl
  rw [hb1, hb2] at hcl
  unfold Own.wdue at hp
  refine wss_cons (ws_ife (k := !intB 0 15 place) (et_not (et_val (eg_call (ok__law_is_int T) (rm.mono (by decide)) T.m__law_is_int T.F__law_is_int.kp T.b__law_is_int (ea_cons (ee_var (i := 1) rfl) (ea_cons ee_int (ea_cons ee_int ea_nil))) (by walk_at "call _law_is_int")))) (fun hk => ?_) fun hk => wss_nil ?_)
  · rw [if_pos (not_t hk)] at hp
    exact wss_one (ws_retE (ee_tup (eap_cons (ee_strS (l := [112, 108, 97, 99, 101])) (eap_cons (ee_var (i := 1) rfl) eap_nil))) hp)
  · have hk : intB 0 15 place = true := not_f hk
    rw [hk, if_neg (fun z => nomatch z)] at hp
    refine wss_cons (ws_ife (k := !cellsB 256 256 cells) (et_not (et_val (eg_call (ok__law_chip_is_cells T) (rm.mono (by decide)) T.m__law_chip_is_cells T.F__law_chip_is_cells.kp T.b__law_chip_is_cells (ea_cons (ee_var (i := 2) rfl) (ea_cons ee_int (ea_cons ee_int ea_nil))) (by walk_at "call _law_chip_is_cells")))) (fun hk2 => ?_) fun hk2 => wss_nil ?_)
    · rw [if_pos (not_t hk2)] at hp
      exact wss_one (ws_retE (ee_tup (eap_cons (ee_strS (l := [99, 101, 108, 108, 115])) (eap_cons (ee_var (i := 2) rfl) eap_nil))) hp)
    · rw [if_neg (by rw [not_f hk2]; exact fun z => nomatch z)] at hp
      obtain ⟨i, rfl, i1, i2⟩ := intB_of hk
      have hlt : i.toNat < o.cells.length := by omega
      have hp : Pp (.py (dueP (if o.cells.getD i.toNat [] ≠ emptyL then some (.full, .int i) else if o.on = true then none else some (.cut, .none)))) m := hp
      refine wss_cons (ws_ife (et_cmp (ee_sub (ee_getD (k := .inr "cells") (hu_of rm.r) (ee_var (i := 0) rfl) ee_str gk_cells) (ee_var (i := 1) rfl) (fun m => sd_lst (at_nn i1 (txts_get hlt)))) (EE.is (ee_bin (ee_strS (l := [102])) ee_int (by walk_at "bd")) (congrArg S (rep_one 256 102))) cd_neS) (fun hk => ?_) fun hk => wss_nil ?_)
      · rw [if_pos (of_decide_eq_false (not_t hk))] at hp
        exact wss_one (ws_retE (ee_tup (eap_cons (ee_strS (l := [102, 117, 108, 108])) (eap_cons (ee_var (i := 1) rfl) eap_nil))) hp)
      · rw [if_neg (fun z => z (of_decide_eq_true (not_f hk)))] at hp
        refine wss_one (ws_retE (ee_if (k := o.on) (et_val (ee_getD (k := .inr "is_on") (hu_of rm.r) (ee_var (i := 0) rfl) ee_str gk_is_on)) (fun hk => ?_) fun hk => ?_) hp)
        · rw [if_pos hk]; exact ee_non
        · rw [if_neg (by rw [hk]; exact fun z => nomatch z)]; exact (ee_tup (eap_cons (ee_strS (l := [99, 117, 116])) (eap_cons ee_non eap_nil)))
theorem ok__law_fault_drawn (T : Tx P K mg) : FnG P w K mg base CX0 9 T.a__law_fault_drawn T.d__law_fault_drawn ["pot"] (SpD K F__law_fault_drawn) := by
  refine fnD_okA (W9.Fun.toA T.F__law_fault_drawn) sc__law_fault_drawn (fun xs m Pp h => by cases h <;> rfl) (fun cdv A outer s H E hcd rm xs m Pp hF => ?_)
  cases hF with | @mk p a b c m Pp ha hb hc hpf h =>
  refine wss_cons (ws_set (i := 1) sc__law_fault_drawn.nd (wg_call (ok__law_of T) (rm.mono (by decide)) T.m__law_of T.F__law_of.kp T.b__law_of (EA.to (ea_cons (ee_var (i := 0) rfl) (ea_cons (ee_lst (eap_cons ee_int (eap_cons ee_int (eap_cons ee_int (eap_cons ee_int (eap_cons ee_int (eap_cons ee_int (eap_cons (ee_neg ee_int) (eap_cons ee_bl (eap_cons ee_non (eap_cons (ee_strS (l := [49])) eap_nil))))))))))) ea_nil)) ⟨[], _, rfl, .mk ha hb ⟨hc.1, by omega⟩ ⟨by decide, by decide⟩ hpf fun x a1 c1 hx ha1 hc1 => ?_⟩)))
  refine wss_cons (ws_set (i := 2) sc__law_fault_drawn.nd (wg_call (ok__law_of T) (rm.mono (by decide)) T.m__law_of T.F__law_of.kp T.b__law_of (EA.to (ea_cons (ee_var (i := 0) rfl) (ea_cons (ee_lst (eap_cons (ee_strS (l := [99, 117, 116])) (eap_cons (ee_strS (l := [98, 97, 100])) (eap_cons (ee_strS (l := [99, 117, 116])) (eap_cons (ee_strS (l := [98, 97, 100])) (eap_cons (ee_strS (l := [111, 102, 102])) (eap_cons ee_non (eap_cons (ee_strS (l := [])) (eap_cons ee_int eap_nil))))))))) ea_nil)) ⟨[], _, rfl, .mk ha1 hb ⟨hc1.1, by omega⟩ ⟨by decide, by decide⟩ hpf fun wd a2 c2 hwd ha2 hc2 => ?_⟩)))
  have hx : gdB x = true ∧ lfB x = true ∧ (toI x).natAbs ≤ 10 := by
    revert x
    decide +kernel
  have hwd : gdB wd = true ∧ lfB wd = true := by
    revert wd
    decide +kernel
  refine wss_one (ws_ret (we_tup (wa_cons (EE.to (ee_var (i := 1) rfl) (wa_cons (EE.to (ee_var (i := 2) rfl) (wa_cons (wg_call (ok__law_of T) (rm.mono (by decide)) T.m__law_of T.F__law_of.kp T.b__law_of (EA.to (ea_cons (ee_var (i := 0) rfl) (ea_cons (ee_lst (eap_cons (ee_strS (l := [102])) (eap_cons (ee_strS (l := [48, 102])) (eap_cons (ee_strS (l := [48])) (eap_cons (EE.is (ee_bin (ee_strS (l := [102])) ee_int (by walk_at "bd")) (congrArg S (rep_one 256 102))) (eap_cons (ee_strS (l := [])) (eap_cons (ee_strS (l := [103])) (eap_cons (EE.is (ee_bin (ee_strS (l := [102])) ee_int (by walk_at "bd")) (congrArg S (rep_one 257 102))) (eap_cons ee_non (eap_cons ee_int (eap_cons (ee_strS (l := [70])) eap_nil))))))))))) ea_nil)) ⟨[], _, rfl, .mk ha2 hb ⟨hc2.1, by omega⟩ ⟨by decide, by decide⟩ hpf fun q a3 c3 hq ha3 hc3 => wa_nil ⟨[x, wd, q], rfl, by show 3 ≤ 1000000; decide, h x wd q a3 c3 ?_ ?_ hx.2.2 ha3 ⟨hc3.1, by omega⟩⟩⟩)))))))))
  all_goals
    have hq : gdB q = true ∧ lfB q = true := by
      revert q
      decide +kernel
  · show gdAll [x, wd, q] = true
    unfold gdAll gdAll gdAll gdAll
    rw [hx.1, hwd.1, hq.1]
    rfl
  · show (lfB x && (lfB wd && (lfB q && true))) = true
    rw [hx.2.1, hwd.2, hq.2]
    rfl
theorem ok__law_fault_due (T : Tx P K mg) : FnG P w K mg base CX0 6 T.a__law_fault_due T.d__law_fault_due ["own", "told"] (SpD K (pureF R__law_fault_due)) := by
  refine fnD_okA (W9.Fun.toA T.F__law_fault_due) sc__law_fault_due (fun xs m Pp ⟨d, h, _⟩ => by cases h <;> rfl) (fun cdv A outer s H E hcd rm xs m Pp ⟨d, hR, hp⟩ => ?_)
  cases hR with | @mk o a wd pt h ha hg =>
  unfold Own.fdue at hp
  have hfl := h.fs.l
  refine wss_cons (ws_asg (js := [2, 3, 4]) (EE.to (ee_var (i := 1) rfl) (wg_tup (wgs_cons (wg_name (i := 2) (wgs_cons (wg_name (i := 3) (wgs_cons (wg_name (i := 4) (wgs_nil ?_) sc__law_fault_due.nd)) sc__law_fault_due.nd)) sc__law_fault_due.nd)))))
  refine wss_cons (ws_ife (k := !(intB 1 1000000000 a && wordB wd)) (ET.is (et_w (ew_or (k := !intB 1 1000000000 a) (l := !wordB wd) (et_not (et_val (eg_call (ok__law_is_int T) (rm.mono (by decide)) T.m__law_is_int T.F__law_is_int.kp T.b__law_is_int (ea_cons (ee_var (i := 2) rfl) (ea_cons ee_int (ea_cons (ee_bin ee_int ee_int (by walk_at "bd")) ea_nil))) (by walk_at "call _law_is_int")))) fun _ => ?_)) (by cases intB 1 1000000000 a <;> rfl)) (fun hk => ?_) fun hk => wss_nil ?_)
  · cases wd with
    | str x =>
      have hx := (gd_str ha).2
      rw [str_eta x]
      generalize x.cps.toList = l at hx
      rw [wordB_S]
      exact ew_or (k := false) (ET.is (et_not (et_val (ee_callB (ea_cons (ee_var (i := 3) rfl) (ea_cons (ee_blt (v := .ty "str") T.m_str bo_str rfl) ea_nil)) (fun m => by walk_at "ca") T.m_isinstance bo_isinstance))) (by rfl)) fun _ => ew_or1 (et_cmp (ee_var (i := 3) rfl) (ee_tup (eap_cons (ee_strS (l := [99, 117, 116])) (eap_cons (ee_strS (l := [98, 97, 100])) eap_nil))) (cd_notinTs (w := l) (ws := [cutL, badL])))
    | _ => exact ew_orT (ET.is (et_not (et_val (ee_callB (ea_cons (ee_var (i := 3) rfl) (ea_cons (ee_blt (v := .ty "str") T.m_str bo_str rfl) ea_nil)) (fun m => by walk_at "ca") T.m_isinstance bo_isinstance))) (by rfl))
  · rw [if_pos (by revert hk; cases intB 1 1000000000 a <;> cases wordB wd <;> simp)] at hp
    exact wss_one (ws_retE (ee_tup (eap_cons (ee_strS (l := [102, 97, 117, 108, 116])) (eap_cons (ee_var (i := 1) rfl) eap_nil))) hp)
  · obtain ⟨k1, k2⟩ : intB 1 1000000000 a = true ∧ wordB wd = true := by
      revert hk
      cases intB 1 1000000000 a <;> cases wordB wd <;> simp
    rw [k1, k2] at hp
    refine wss_cons (ws_ife (k := !cellsB 1 256 pt) (et_not (et_val (eg_call (ok__law_chip_is_cells T) (rm.mono (by decide)) T.m__law_chip_is_cells T.F__law_chip_is_cells.kp T.b__law_chip_is_cells (ea_cons (ee_var (i := 4) rfl) (ea_cons ee_int (ea_cons ee_int ea_nil))) (by walk_at "call _law_chip_is_cells")))) (fun hk2 => ?_) fun hk2 => wss_nil ?_)
    · rw [if_pos (by rw [not_t hk2]; rfl)] at hp
      exact wss_one (ws_retE (ee_tup (eap_cons (ee_strS (l := [102, 97, 117, 108, 116])) (eap_cons (ee_var (i := 1) rfl) eap_nil))) hp)
    · rw [if_neg (by rw [not_f hk2]; exact fun z => nomatch z)] at hp
      refine wss_cons (ws_setLcG (i := 5) o.fs (fun q => Tp [.int q.1, tx q.2.1, tx q.2.2]) (fun q => decide (o.done < q.1)) (fun q => .int q.1) (fun q ds => ((ds.set 6 (some (I q.1))).set 7 (some (S q.2.1))).set 8 (some (S q.2.2))) [("at", 6), ("its", 7), ("cells", 8)] rfl sc__law_fault_due.nd
        (EI.to (ei_lst (ee_getD (k := .inr "faults") (hu_of rm.r) (ee_var (i := 0) rfl) ee_str gk_faults)) ⟨by rw [List.map_map]; rfl, rfl⟩) (by omega)
        (fun q _ s H Ce cl fp ds m Q hq => wg_tup (wgs_cons (wg_name (wgs_cons (wg_name (wgs_cons (wg_name (wgs_nil hq) sc__law_fault_due.nd)) sc__law_fault_due.nd)) sc__law_fault_due.nd)))
        (fun q _ s H Ce cl fp Q hq => wts_one (ET.to (et_cmp (ee_var (i := 6) rfl) (ee_getD (k := .inr "done") (hu_of rm.r) (ee_var (i := 0) rfl) ee_str gk_done) (by walk_at "cd")) hq)) (fun q _ _ s H Ce cl fp Q hq => EE.to (ee_var (i := 6) rfl) hq) (blkOk_by (by rfl)) ?_)
      have hl : (o.fs.filter fun q => decide (o.done < q.1)).map (fun q => PyData.int q.1) = o.later.map .int := by unfold Own.later; rw [List.map_map]; rfl
      rw [hl]
      cases hs : srtI o.later with
      | nil =>
        rw [hs] at hp
        rw [srt_nil hs]
        exact wss_one (ws_retE (ee_if (k := false) (ET.is (et_cmp (ee_var (i := 5) rfl) (ee_lst eap_nil) (cd_neD (rm.mono (by decide)) (by rfl) (by rfl))) (by rfl)) (fun z => nomatch z) (fun _ => ee_non)) hp)
      | cons i r =>
        rw [hs] at hp
        obtain ⟨s1, s2⟩ := srt_head hs
        exact wss_one (ws_retE (ee_if (k := true) (ET.is (et_cmp (ee_var (i := 5) rfl) (ee_lst eap_nil) (cd_neD (rm.mono (by decide)) sh_ints (by rfl))) (by
          cases hl2 : o.later with
          | nil => rw [hl2] at s1; cases s1
          | cons y t => rfl)) (fun _ => ee_tup (eap_cons ee_str (eap_cons (ee_callB (ea_cons (ee_var (i := 5) rfl) ea_nil) (fun m => ca_minL rfl s1 s2) T.m_min bo_min) eap_nil))) (fun z => nomatch z)) hp)
end
end K15
end W9
namespace W9
namespace K15
open PySem PySem.Spec PyProof.Rows L2
local macro_rules | `(tactic| walk_at "sz") => `(tactic| first | assumption | omega | decide | (simp only [List.length_append, List.length_map, List.length_zipIdx, List.length_cons, List.length_nil, List.length_replicate, List.length_range, List.length_zip, List.length_take, List.length_drop]; omega) | (simp; omega) | (simp; done))
local macro_rules | `(tactic| walk_at "bd") => `(tactic| first | exact bd_add | exact bd_sub | exact bd_mul (by omega) | exact bd_mod (by omega) | exact bd_mod (by decide +kernel) | exact bd_pow (by omega) | exact bd_powX (by decide +kernel) | exact bd_div (by omega) | exact bd_addS (by walk_at "sz") | exact bd_mulS (by walk_at "sz") | exact bd_catL (by walk_at "sz"))
local macro_rules | `(tactic| walk_at "cd") => `(tactic| first | exact cd_lt | exact cd_le | exact cd_gt | exact cd_ge | exact cd_eq | exact cd_ne | exact cd_isN | exact cd_notN | exact cd_eqS | exact cd_neS | exact cd_ltS | exact cd_inS | exact cd_notinS | exact cd_inTs (Rm.mono (by assumption) (by decide)) (by assumption) (by assumption) | exact cd_notinTs | exact cd_eqT | exact cd_neT | exact cd_notinI (Rm.mono (by assumption) (by decide)))
local macro_rules | `(tactic| walk_at "ca") => `(tactic| first | exact ca_isiD (by simp) | exact ca_lenS (by walk_at "sz") | exact ca_lenL | exact ca_lenT | exact ca_allm rfl | exact ca_int | exact ca_intB | exact ca_abs | exact ca_max2 rfl | exact ca_min2 rfl | exact ca_sum rfl | exact ca_tupL | exact ca_listL | exact ca_listT | exact ca_maxS rfl | exact ca_listS rfl (by walk_at "sz"))
local macro_rules | `(tactic| walk_at "sl") => `(tactic| first | exact sl_S (by walk_at "sz") | exact sl_L | exact sl_T)
local macro_rules | `(tactic| walk_at "rg") => `(tactic| omega)
local macro_rules | `(tactic| walk_at "asc") => `(tactic| first | assumption | exact HexL.asc (by assumption))
local macro_rules | `(tactic| walk_at "sd") => `(tactic| first | exact sd_tup (by rfl) | exact sd_lst (by rfl) | exact sd_tup (at_nn (by decide) (by rfl)) | exact sd_lst (at_nn (by decide) (by rfl)))
local macro_rules | `(tactic| walk_at "ca") => `(tactic| exact ca_isiX (by assumption) (by assumption) (by assumption) (by assumption))
section
variable {P : Program} {w : World} {K : PySem.W.Frag} {mg : Str → Option Value} {base : Heap}
theorem errT (T : Tx P K mg) (e : Er) : Told.TxtC K T.aD T.fI (errA T e) := by
  cases e
  · exact T.T_BadSize
  · exact T.T_BadFaults
  · exact T.T_BadPlace
  · exact T.T_BadCells
  · exact T.T_NotEmpty
  · exact T.T_Cut
  · exact T.T_BadBlock
  · exact T.T_BadFade
  · exact T.T_BadFault
  · exact T.T_Pending
theorem errI (T : Tx P K mg) (e : Er) : Told.TxtI K (errA T e) := by
  cases e
  · exact T.I_BadSize
  · exact T.I_BadFaults
  · exact T.I_BadPlace
  · exact T.I_BadCells
  · exact T.I_NotEmpty
  · exact T.I_Cut
  · exact T.I_BadBlock
  · exact T.I_BadFade
  · exact T.I_BadFault
  · exact T.I_Pending
theorem errXm (T : Tx P K mg) (e : Er) : PySem.W.exmOne K (.ref (errA T e)) (.ref T.aD) = some true := by
  cases e
  · exact T.x_BadSize
  · exact T.x_BadFaults
  · exact T.x_BadPlace
  · exact T.x_BadCells
  · exact T.x_NotEmpty
  · exact T.x_Cut
  · exact T.x_BadBlock
  · exact T.x_BadFade
  · exact T.x_BadFault
  · exact T.x_Pending
theorem ek_size (T : Tx P K mg) (e : Er) : PySem.W.kitOne K (.ref (errA T e)) (.ref T.e_BadSize) = some (decide (e = .size)) := by
  cases e
  · exact T.k_BadSize_BadSize
  · exact T.k_BadFaults_BadSize
  · exact T.k_BadPlace_BadSize
  · exact T.k_BadCells_BadSize
  · exact T.k_NotEmpty_BadSize
  · exact T.k_Cut_BadSize
  · exact T.k_BadBlock_BadSize
  · exact T.k_BadFade_BadSize
  · exact T.k_BadFault_BadSize
  · exact T.k_Pending_BadSize
theorem ek_faults (T : Tx P K mg) (e : Er) : PySem.W.kitOne K (.ref (errA T e)) (.ref T.e_BadFaults) = some (decide (e = .faults)) := by
  cases e
  · exact T.k_BadSize_BadFaults
  · exact T.k_BadFaults_BadFaults
  · exact T.k_BadPlace_BadFaults
  · exact T.k_BadCells_BadFaults
  · exact T.k_NotEmpty_BadFaults
  · exact T.k_Cut_BadFaults
  · exact T.k_BadBlock_BadFaults
  · exact T.k_BadFade_BadFaults
  · exact T.k_BadFault_BadFaults
  · exact T.k_Pending_BadFaults
theorem ek_place (T : Tx P K mg) (e : Er) : PySem.W.kitOne K (.ref (errA T e)) (.ref T.e_BadPlace) = some (decide (e = .place)) := by
  cases e
  · exact T.k_BadSize_BadPlace
  · exact T.k_BadFaults_BadPlace
  · exact T.k_BadPlace_BadPlace
  · exact T.k_BadCells_BadPlace
  · exact T.k_NotEmpty_BadPlace
  · exact T.k_Cut_BadPlace
  · exact T.k_BadBlock_BadPlace
  · exact T.k_BadFade_BadPlace
  · exact T.k_BadFault_BadPlace
  · exact T.k_Pending_BadPlace
theorem ek_cells (T : Tx P K mg) (e : Er) : PySem.W.kitOne K (.ref (errA T e)) (.ref T.e_BadCells) = some (decide (e = .cells)) := by
  cases e
  · exact T.k_BadSize_BadCells
  · exact T.k_BadFaults_BadCells
  · exact T.k_BadPlace_BadCells
  · exact T.k_BadCells_BadCells
  · exact T.k_NotEmpty_BadCells
  · exact T.k_Cut_BadCells
  · exact T.k_BadBlock_BadCells
  · exact T.k_BadFade_BadCells
  · exact T.k_BadFault_BadCells
  · exact T.k_Pending_BadCells
theorem ek_full (T : Tx P K mg) (e : Er) : PySem.W.kitOne K (.ref (errA T e)) (.ref T.e_NotEmpty) = some (decide (e = .full)) := by
  cases e
  · exact T.k_BadSize_NotEmpty
  · exact T.k_BadFaults_NotEmpty
  · exact T.k_BadPlace_NotEmpty
  · exact T.k_BadCells_NotEmpty
  · exact T.k_NotEmpty_NotEmpty
  · exact T.k_Cut_NotEmpty
  · exact T.k_BadBlock_NotEmpty
  · exact T.k_BadFade_NotEmpty
  · exact T.k_BadFault_NotEmpty
  · exact T.k_Pending_NotEmpty
theorem ek_cut (T : Tx P K mg) (e : Er) : PySem.W.kitOne K (.ref (errA T e)) (.ref T.e_Cut) = some (decide (e = .cut)) := by
  cases e
  · exact T.k_BadSize_Cut
  · exact T.k_BadFaults_Cut
  · exact T.k_BadPlace_Cut
  · exact T.k_BadCells_Cut
  · exact T.k_NotEmpty_Cut
  · exact T.k_Cut_Cut
  · exact T.k_BadBlock_Cut
  · exact T.k_BadFade_Cut
  · exact T.k_BadFault_Cut
  · exact T.k_Pending_Cut
theorem ek_block (T : Tx P K mg) (e : Er) : PySem.W.kitOne K (.ref (errA T e)) (.ref T.e_BadBlock) = some (decide (e = .block)) := by
  cases e
  · exact T.k_BadSize_BadBlock
  · exact T.k_BadFaults_BadBlock
  · exact T.k_BadPlace_BadBlock
  · exact T.k_BadCells_BadBlock
  · exact T.k_NotEmpty_BadBlock
  · exact T.k_Cut_BadBlock
  · exact T.k_BadBlock_BadBlock
  · exact T.k_BadFade_BadBlock
  · exact T.k_BadFault_BadBlock
  · exact T.k_Pending_BadBlock
theorem ek_fade (T : Tx P K mg) (e : Er) : PySem.W.kitOne K (.ref (errA T e)) (.ref T.e_BadFade) = some (decide (e = .fade)) := by
  cases e
  · exact T.k_BadSize_BadFade
  · exact T.k_BadFaults_BadFade
  · exact T.k_BadPlace_BadFade
  · exact T.k_BadCells_BadFade
  · exact T.k_NotEmpty_BadFade
  · exact T.k_Cut_BadFade
  · exact T.k_BadBlock_BadFade
  · exact T.k_BadFade_BadFade
  · exact T.k_BadFault_BadFade
  · exact T.k_Pending_BadFade
theorem ek_fault (T : Tx P K mg) (e : Er) : PySem.W.kitOne K (.ref (errA T e)) (.ref T.e_BadFault) = some (decide (e = .fault)) := by
  cases e
  · exact T.k_BadSize_BadFault
  · exact T.k_BadFaults_BadFault
  · exact T.k_BadPlace_BadFault
  · exact T.k_BadCells_BadFault
  · exact T.k_NotEmpty_BadFault
  · exact T.k_Cut_BadFault
  · exact T.k_BadBlock_BadFault
  · exact T.k_BadFade_BadFault
  · exact T.k_BadFault_BadFault
  · exact T.k_Pending_BadFault
theorem ek_pending (T : Tx P K mg) (e : Er) : PySem.W.kitOne K (.ref (errA T e)) (.ref T.e_Pending) = some (decide (e = .pending)) := by
  cases e
  · exact T.k_BadSize_Pending
  · exact T.k_BadFaults_Pending
  · exact T.k_BadPlace_Pending
  · exact T.k_BadCells_Pending
  · exact T.k_NotEmpty_Pending
  · exact T.k_Cut_Pending
  · exact T.k_BadBlock_Pending
  · exact T.k_BadFade_Pending
  · exact T.k_BadFault_Pending
  · exact T.k_Pending_Pending
abbrev raisedRest : List Stmt := (defBody (topS 55)).drop 1
abbrev rN : List Str := ["call", "due", "caught", "marks", "word"]
theorem rest_no (T : Tx P K mg) {cdv : Value} {A : Around} {outer : List Env} {s : Shared} {H : Hp} {E : XK} {m : MS} {Pp : SD → MS → Prop} {fE : SD} (hp : Pp (B true) m) :
    WSs (bX P w K mg base rN "_law_is_raised" (defScope (topS 55)) T.a__law_is_raised cdv A outer s H E) raisedRest ((startD rN [fE, .py (dueP none)]).set 2 (some N0)) m { nx := fun _ _ => False, rt := Pp } := by
  exact wss_cons (ws_ife (k := true) (ET.is (et_cmp (ee_var (i := 1) rfl) ee_non (by walk_at "cd")) (by rfl)) (fun _ => wss_one (ws_retE (EE.is (ee_cmp (ee_var (i := 2) rfl) ee_non (by walk_at "cd")) (by rfl)) hp)) fun z => nomatch z)
theorem rest_err (T : Tx P K mg) {cdv : Value} {A : Around} {outer : List Env} {s : Shared} {H : Hp} {E : XK} {m : MS} {Pp : SD → MS → Prop} {fE : SD} {e : Er} {d : PyData} (hr : Rep d) (rm : Rm 1 (bX P w K mg base rN "_law_is_raised" (defScope (topS 55)) T.a__law_is_raised cdv A outer s H E).A) (hp : Pp (B true) m) :
    WSs (bX P w K mg base rN "_law_is_raised" (defScope (topS 55)) T.a__law_is_raised cdv A outer s H E) raisedRest ((startD rN [fE, .py (dueP (some (e, d)))]).set 2 (some (ErS K (errA T e) (.py d)))) m { nx := fun _ _ => False, rt := Pp } := by
  have hT := errT T e
  have hI := errI T e
  have hG := T.TG
  have h_size := ek_size T e
  have h_faults := ek_faults T e
  have h_place := ek_place T e
  have h_cells := ek_cells T e
  have h_full := ek_full T e
  have h_cut := ek_cut T e
  have h_block := ek_block T e
  have h_fade := ek_fade T e
  have h_fault := ek_fault T e
  have h_pending := ek_pending T e
  refine wss_cons (ws_ife (k := false) (ET.is (et_cmp (ee_var (i := 1) rfl) ee_non (by walk_at "cd")) (by rfl)) (fun z => nomatch z) fun _ => wss_nil ?_)
  refine wss_cons (ws_set (i := 3) sc__law_is_raised.nd (we_ddisp (l := [(.inr "size", .py (.bool (decide (e = .size)))), (.inr "faults", .py (.bool (decide (e = .faults))))]) (eps_cons ee_str (ee_callB (ea_cons (ee_var (i := 2) rfl) (ea_cons (ee_glob (v := .ref T.e_BadSize) (d := .raw (.ref T.e_BadSize)) T.m_BadSize rfl fun _ => .raw _) ea_nil)) (fun m => by walk_at "ca") T.m_isinstance bo_isinstance) (eps_cons ee_str (ee_callB (ea_cons (ee_var (i := 2) rfl) (ea_cons (ee_glob (v := .ref T.e_BadFaults) (d := .raw (.ref T.e_BadFaults)) T.m_BadFaults rfl fun _ => .raw _) ea_nil)) (fun m => by walk_at "ca") T.m_isinstance bo_isinstance) eps_nil)) (fun p hp1 => ?_) (by show 2 ≤ 15; decide)))
  rw [mrgK_nil (by show List.Nodup [(.inr "size" : Key), .inr "faults"]; decide +kernel)]
  refine wss_cons (ws_expr (we_updD (ee_var (i := 3) rfl) List.mem_cons_self (we_ddisp (l := [(.inr "place", .py (.bool (decide (e = .place)))), (.inr "cells", .py (.bool (decide (e = .cells))))]) (eps_cons ee_str (ee_callB (ea_cons (ee_var (i := 2) rfl) (ea_cons (ee_glob (v := .ref T.e_BadPlace) (d := .raw (.ref T.e_BadPlace)) T.m_BadPlace rfl fun _ => .raw _) ea_nil)) (fun m => by walk_at "ca") T.m_isinstance bo_isinstance) (eps_cons ee_str (ee_callB (ea_cons (ee_var (i := 2) rfl) (ea_cons (ee_glob (v := .ref T.e_BadCells) (d := .raw (.ref T.e_BadCells)) T.m_BadCells rfl fun _ => .raw _) ea_nil)) (fun m => by walk_at "ca") T.m_isinstance bo_isinstance) eps_nil)) (fun p2 hp2 => ⟨p2, _, _, rfl, rfl, List.mem_cons_self, ?_, ?_⟩) (by show 2 ≤ 15; decide))))
  · rw [mrgK_nil (by show List.Nodup [(.inr "place" : Key), .inr "cells"]; decide +kernel)]
    show 2 + 2 ≤ 1000000
    decide
  rw [mrgK_nil (by show List.Nodup [(.inr "place" : Key), .inr "cells"]; decide +kernel), mrgK_app (by show List.Nodup [(.inr "size" : Key), .inr "faults", .inr "place", .inr "cells"]; decide +kernel), mset_hd hp1]
  refine wss_cons (ws_expr (we_updD (ee_var (i := 3) rfl) List.mem_cons_self (we_ddisp (l := [(.inr "full", .py (.bool (decide (e = .full)))), (.inr "cut", .py (.bool (decide (e = .cut))))]) (eps_cons ee_str (ee_callB (ea_cons (ee_var (i := 2) rfl) (ea_cons (ee_glob (v := .ref T.e_NotEmpty) (d := .raw (.ref T.e_NotEmpty)) T.m_NotEmpty rfl fun _ => .raw _) ea_nil)) (fun m => by walk_at "ca") T.m_isinstance bo_isinstance) (eps_cons ee_str (ee_callB (ea_cons (ee_var (i := 2) rfl) (ea_cons (ee_glob (v := .ref T.e_Cut) (d := .raw (.ref T.e_Cut)) T.m_Cut rfl fun _ => .raw _) ea_nil)) (fun m => by walk_at "ca") T.m_isinstance bo_isinstance) eps_nil)) (fun p2 hp2 => ⟨p2, _, _, rfl, rfl, List.mem_cons_self, ?_, ?_⟩) (by show 2 ≤ 15; decide))))
  · rw [mrgK_nil (by show List.Nodup [(.inr "full" : Key), .inr "cut"]; decide +kernel)]
    show 4 + 2 ≤ 1000000
    decide
  rw [mrgK_nil (by show List.Nodup [(.inr "full" : Key), .inr "cut"]; decide +kernel), mrgK_app (by show List.Nodup [(.inr "size" : Key), .inr "faults", .inr "place", .inr "cells", .inr "full", .inr "cut"]; decide +kernel), mset_hd hp1]
  refine wss_cons (ws_expr (we_updD (ee_var (i := 3) rfl) List.mem_cons_self (we_ddisp (l := [(.inr "block", .py (.bool (decide (e = .block)))), (.inr "fade", .py (.bool (decide (e = .fade))))]) (eps_cons ee_str (ee_callB (ea_cons (ee_var (i := 2) rfl) (ea_cons (ee_glob (v := .ref T.e_BadBlock) (d := .raw (.ref T.e_BadBlock)) T.m_BadBlock rfl fun _ => .raw _) ea_nil)) (fun m => by walk_at "ca") T.m_isinstance bo_isinstance) (eps_cons ee_str (ee_callB (ea_cons (ee_var (i := 2) rfl) (ea_cons (ee_glob (v := .ref T.e_BadFade) (d := .raw (.ref T.e_BadFade)) T.m_BadFade rfl fun _ => .raw _) ea_nil)) (fun m => by walk_at "ca") T.m_isinstance bo_isinstance) eps_nil)) (fun p2 hp2 => ⟨p2, _, _, rfl, rfl, List.mem_cons_self, ?_, ?_⟩) (by show 2 ≤ 15; decide))))
  · rw [mrgK_nil (by show List.Nodup [(.inr "block" : Key), .inr "fade"]; decide +kernel)]
    show 6 + 2 ≤ 1000000
    decide
  rw [mrgK_nil (by show List.Nodup [(.inr "block" : Key), .inr "fade"]; decide +kernel), mrgK_app (by show List.Nodup [(.inr "size" : Key), .inr "faults", .inr "place", .inr "cells", .inr "full", .inr "cut", .inr "block", .inr "fade"]; decide +kernel), mset_hd hp1]
  refine wss_cons (ws_expr (we_updD (ee_var (i := 3) rfl) List.mem_cons_self (we_ddisp (l := [(.inr "fault", .py (.bool (decide (e = .fault)))), (.inr "pending", .py (.bool (decide (e = .pending))))]) (eps_cons ee_str (ee_callB (ea_cons (ee_var (i := 2) rfl) (ea_cons (ee_glob (v := .ref T.e_BadFault) (d := .raw (.ref T.e_BadFault)) T.m_BadFault rfl fun _ => .raw _) ea_nil)) (fun m => by walk_at "ca") T.m_isinstance bo_isinstance) (eps_cons ee_str (ee_callB (ea_cons (ee_var (i := 2) rfl) (ea_cons (ee_glob (v := .ref T.e_Pending) (d := .raw (.ref T.e_Pending)) T.m_Pending rfl fun _ => .raw _) ea_nil)) (fun m => by walk_at "ca") T.m_isinstance bo_isinstance) eps_nil)) (fun p2 hp2 => ⟨p2, _, _, rfl, rfl, List.mem_cons_self, ?_, ?_⟩) (by show 2 ≤ 15; decide))))
  · rw [mrgK_nil (by show List.Nodup [(.inr "fault" : Key), .inr "pending"]; decide +kernel)]
    show 8 + 2 ≤ 1000000
    decide
  rw [mrgK_nil (by show List.Nodup [(.inr "fault" : Key), .inr "pending"]; decide +kernel), mrgK_app (by show List.Nodup [(.inr "size" : Key), .inr "faults", .inr "place", .inr "cells", .inr "full", .inr "cut", .inr "block", .inr "fade", .inr "fault", .inr "pending"]; decide +kernel), mset_hd hp1]
  show WSs _ _ _ ((p, .ds (pyK (marksL e))) :: m) _
  refine wss_sealD (i := 3) rfl ?_
  have nd := marks_nd e
  refine wss_cons (ws_ife (k := false) (ET.is (et_cmp (fun m => we_lcG (marksL e) (fun q => .py (keyP q.1)) (fun q => isTr q.2) (fun q => keyP q.1) (fun q ds => ds.set 4 (some (.py (keyP q.1)))) [("word", 4)] rfl sc__law_is_raised.nd
      (EI.to (ei_dkeys (ee_var (i := 3) rfl)) ⟨rfl, rfl⟩) (by show 10 ≤ 1000000; decide) (fun q _ s H Ce cl fp ds m Q hq => wg_name hq sc__law_is_raised.nd)
      (fun q hq s H Ce cl fp Q hQ => wts_one (ET.to (et_val (EE.is (ee_getD (k := q.1) (hu_of (Rm.bk rm).r) (ee_var (i := 3) rfl) (ee_var (i := 4) rfl) (getK_mem nd hq)) (congrArg SD.py (marks_bool hq)))) hQ))
      (fun q _ _ s H Ce cl fp Q hq => EE.to (ee_var (i := 4) rfl) hq) (blkOk_by (by rfl)) ⟨(congrArg Ls (marks_word e) : _ = Ls (txts [wordE e])), rfl⟩) (ee_lst (eap_cons (ee_sub (ee_var (i := 1) rfl) ee_int (fun m => by walk_at "sd")) eap_nil)) (cd_neL (b := [wordE e]) (rm.mono (by decide)) (wordE_plain e) (wordE_plain e))) (by rw [decide_eq_true rfl]; rfl)) (fun z => nomatch z) fun _ => wss_nil ?_)
  exact wss_one (ws_retE (EE.is (ee_cmp (ee_reprR (ee_xv hT (ee_var (i := 2) rfl)) (rm.mono (by decide)) hr T.m_repr) (ee_reprR (ee_sub (ee_var (i := 1) rfl) ee_int (fun m => by walk_at "sd")) (rm.mono (by decide)) hr T.m_repr) cd_eqT) (congrArg B (decide_eq_true rfl))) hp)
end
end K15
end W9
namespace W9
open PySem PySem.Spec PyProof.Rows L2
/-- the own chip of a chip -/
def Chp.own (c : Chp) (wr : List (Int × List Nat)) : Own := ⟨c.bl, c.pg, c.cells, c.wear, srtI c.bad, wr, c.fs, c.done, c.cuts, c.on⟩
theorem iteF {c : Prop} [Decidable c] {a b : Prop} (h : ¬ c) (hb : b) : if c then a else b := by rw [if_neg h]; exact hb
theorem neS (a : Str) : ¬ ((!decide (a = a)) = true) := by rw [decide_eq_true rfl]; exact fun z => nomatch z
namespace K15
local macro_rules | `(tactic| walk_at "sz") => `(tactic| first | assumption | omega | decide | (simp only [List.length_append, List.length_map, List.length_zipIdx, List.length_cons, List.length_nil, List.length_replicate, List.length_range, List.length_zip, List.length_take, List.length_drop]; omega) | (simp; omega) | (simp; done))
local macro_rules | `(tactic| walk_at "bd") => `(tactic| first | exact bd_add | exact bd_sub | exact bd_mul (by omega) | exact bd_mod (by omega) | exact bd_mod (by decide +kernel) | exact bd_pow (by omega) | exact bd_powX (by decide +kernel) | exact bd_div (by omega) | exact bd_addS (by walk_at "sz") | exact bd_mulS (by walk_at "sz") | exact bd_catL (by walk_at "sz"))
local macro_rules | `(tactic| walk_at "cd") => `(tactic| first | exact cd_lt | exact cd_le | exact cd_gt | exact cd_ge | exact cd_eq | exact cd_ne | exact cd_isN | exact cd_notN | exact cd_eqS | exact cd_neS | exact cd_ltS | exact cd_inS | exact cd_notinS | exact cd_inTs (Rm.mono (by assumption) (by decide)) (by assumption) (by assumption) | exact cd_notinTs | exact cd_eqT | exact cd_neT | exact cd_notinI (Rm.mono (by assumption) (by decide)))
local macro_rules | `(tactic| walk_at "ca") => `(tactic| first | exact ca_isiD (by simp) | exact ca_lenS (by walk_at "sz") | exact ca_lenL | exact ca_lenT | exact ca_allm rfl | exact ca_int | exact ca_intB | exact ca_abs | exact ca_max2 rfl | exact ca_min2 rfl | exact ca_sum rfl | exact ca_tupL | exact ca_listL | exact ca_listT | exact ca_maxS rfl | exact ca_listS rfl (by walk_at "sz"))
local macro_rules | `(tactic| walk_at "sl") => `(tactic| first | exact sl_S (by walk_at "sz") | exact sl_L | exact sl_T)
local macro_rules | `(tactic| walk_at "rg") => `(tactic| omega)
local macro_rules | `(tactic| walk_at "asc") => `(tactic| first | assumption | exact HexL.asc (by assumption))
local macro_rules | `(tactic| walk_at "sd") => `(tactic| first | exact sd_tup (by rfl) | exact sd_lst (by rfl) | exact sd_tup (at_nn (by decide) (by rfl)) | exact sd_lst (at_nn (by decide) (by rfl)))
local macro_rules | `(tactic| walk_at "rep") => `(tactic| assumption)
variable {P : Program} {K : PySem.W.Frag} {mg : Str → Option Value} in
inductive F__law_chip_is_told (T : Tx P K mg) : FT
  | mk {A : CA} {c : Chp} {wr : List (Int × List Nat)} {Pp : SD → MS → Prop} (hb : WfC c) (h0 : c.bad.length < 64) (h1 : (c.wear.map PyData.int).all lfB = true) (h2 : ((srtI c.bad).map PyData.int).all lfB = true) (h3 : [PyData.int c.done, .int c.cuts, .bool c.on].all lfB = true)
      (hp : Pp (B true) (chM T.o_Chip A c)) : F__law_chip_is_told T [.raw (.ref A.a), Dd (c.own wr).d] (chM T.o_Chip A c) Pp
section
variable {P : Program} {w : World} {K : PySem.W.Frag} {mg : Str → Option Value} {base : Heap}
theorem ok__law_chip_is_told (T : Tx P K mg) : FnG P w K mg base CX0 6 T.a__law_chip_is_told T.d__law_chip_is_told ["chip", "own"] (SpD K (F__law_chip_is_told T)) := by
  refine fnD_okA (W9.Fun.toA T.F__law_chip_is_told) sc__law_chip_is_told (fun xs m Pp h => by cases h <;> rfl) (fun cdv A outer s H E hcd rm xs m Pp hF => ?_)
  cases hF with | @mk A c wr Pp hb h0 h1 h2 h3 hp =>
  obtain ⟨b1, b2, b3, b4⟩ := hb.b
  have hwl := hb.wl
  have hsl : (srtI c.bad).length = c.bad.length := (srtI_perm c.bad).length_eq
  have r1 : Rep (.tuple ((c.own wr).wear.map .int)) := rep_tp h1 (by show (c.wear.map PyData.int).length ≤ 1000; rw [List.length_map]; omega)
  have r2 : Rep (.tuple ((c.own wr).bad.map .int)) := rep_tp h2 (by show ((srtI c.bad).map PyData.int).length ≤ 1000; rw [List.length_map]; omega)
  have r3 : Rep (.tuple [.int (c.own wr).done, .int (c.own wr).cuts, .bool (c.own wr).on]) := rep_tp h3 (by show 3 ≤ 1000; decide)
  refine wss_cons (ws_if (wt_or (wt_cmp (we_callB (wa_cons (wg_prop (ok_Chip_wear T) (rm.mono (by decide)) T.S_Chip T.M_Chip_wear T.b_Chip_wear (EE.to (ee_var (i := 0) rfl) (rcv_c ⟨[], _, rfl, .mk (wa_nil ⟨_, ca_reprR (rm.mono (by decide)) r1, EE.to (ee_reprR (ee_callTy (ea_cons (ee_getD (k := .inr "wear") (hu_of rm.r) (ee_var (i := 1) rfl) ee_str gk_wear) ea_nil) (fun m => by walk_at "ca") T.m_tuple bo_tuple) (rm.mono (by decide)) (by walk_at "rep") T.m_repr) ⟨_, cd_neT, ?_⟩⟩)⟩)))) T.m_repr bo_repr))))
  refine iteF (neS _) ?_
  refine wt_cmp (we_callB (wa_cons (wg_prop (ok_Chip_bad T) (rm.mono (by decide)) T.S_Chip T.M_Chip_bad T.b_Chip_bad (EE.to (ee_var (i := 0) rfl) (rcv_c ⟨[], _, rfl, .mk h0 (wa_nil ⟨_, ca_reprR (rm.mono (by decide)) r2, EE.to (ee_reprR (ee_callTy (ea_cons (ee_getD (k := .inr "bad") (hu_of rm.r) (ee_var (i := 1) rfl) ee_str gk_bad) ea_nil) (fun m => by walk_at "ca") T.m_tuple bo_tuple) (rm.mono (by decide)) (by walk_at "rep") T.m_repr) ⟨_, cd_neT, ?_⟩⟩)⟩)))) T.m_repr bo_repr)
  refine iteF (neS _) ?_
  refine wss_nil (wss_cons (ws_if (wt_cmp (we_callB (wa_cons (we_tup (wa_cons (wg_prop (ok_Chip_done T) (rm.mono (by decide)) T.S_Chip T.M_Chip_done T.b_Chip_done (EE.to (ee_var (i := 0) rfl) (rcv_c ⟨[], _, rfl, .mk (wa_cons (wg_prop (ok_Chip_cuts T) (rm.mono (by decide)) T.S_Chip T.M_Chip_cuts T.b_Chip_cuts (EE.to (ee_var (i := 0) rfl) (rcv_c ⟨[], _, rfl, .mk (wa_cons (wg_prop (ok_Chip_is_on T) (rm.mono (by decide)) T.S_Chip T.M_Chip_is_on T.b_Chip_is_on (EE.to (ee_var (i := 0) rfl) (rcv_c ⟨[], _, rfl, .mk (wa_nil ⟨[.int c.done, .int c.cuts, .bool c.on], rfl, by show 3 ≤ 1000000; decide, wa_nil ⟨_, ca_reprR (rm.mono (by decide)) r3, EE.to (ee_reprR (ee_tup (eap_cons (ee_getD (k := .inr "done") (hu_of rm.r) (ee_var (i := 1) rfl) ee_str gk_done) (eap_cons (ee_getD (k := .inr "cuts") (hu_of rm.r) (ee_var (i := 1) rfl) ee_str gk_cuts) (eap_cons (ee_getD (k := .inr "is_on") (hu_of rm.r) (ee_var (i := 1) rfl) ee_str gk_is_on) eap_nil)))) (rm.mono (by decide)) (by walk_at "rep") T.m_repr) ⟨_, cd_neT, ?_⟩⟩⟩)⟩))))⟩))))⟩)))))) T.m_repr bo_repr))))
  refine iteF (neS _) ?_
  have hpl : Plain c.cells := fun t ht => hex_pl (hb.ce t ht).1
  refine wss_nil (wss_one (ws_ret (we_cmp (wg_meth0 (ok_Chip_image T) (rm.mono (by decide)) T.S_Chip T.M_Chip_image T.b_Chip_image (EE.to (ee_var (i := 0) rfl) (rcv_c ⟨[], _, rfl, .mk (EE.to (ee_callTy (ea_cons (ee_getD (k := .inr "cells") (hu_of rm.r) (ee_var (i := 1) rfl) ee_str gk_cells) ea_nil) (fun m => by walk_at "ca") T.m_tuple bo_tuple) ⟨_, cd_eqD (rm.mono (by decide)) (sh_tp hpl) (sh_tp hpl), ?_⟩)⟩))))))
  show Pp (B (PyData.eqv (.tuple (txts c.cells)) (.tuple (txts c.cells)))) _
  rw [show PyData.eqv (.tuple (txts c.cells)) (.tuple (txts c.cells)) = true by unfold PyData.eqv; rw [eqvAll_txts]; exact decide_eq_true rfl]
  exact hp
end
end K15
end W9
namespace W9
open PySem PySem.Spec PyProof.Rows L2
theorem ad_sub {m' m : MS} (h : m'.Sublist m) : (ad m').Sublist (ad m) := List.Sublist.map _ h
theorem Gr.sub {K : PySem.W.Frag} {m m' : MS} {G H : Hp} (w : Wd K m G H) (h : m'.Sublist m) : Gr K m m' G H G H := ⟨Ex.refl _, fun _ _ _ e => e, fun _ e => e, fun _ _ e _ _ => e, fun q hq => .inl (mem_ad (h.subset hq)),
  ⟨w.w, fun p hp => w.own p (h.subset hp), w.nd.sublist (ad_sub h)⟩⟩
section
variable {X : Cx} {ds : DE} {m m' : MS} {a b : Expr} {pos : Pos}
theorem wss_sub {sts : List Stmt} {E : ED} (hs : m'.Sublist m) (h : WSs X sts ds m' E) : WSs X sts ds m E := fun σ G H e0 w D k => h σ G H e0 (Gr.sub w hs).wd D (k.after (Gr.sub w hs))
theorem WE.sub {e : Expr} {P : SD → MS → Prop} (h : WE X e ds m fun d m1 => ∃ m2, m2.Sublist m1 ∧ P d m2) : WE X e ds m P := fun σ G H E w Q k => h σ G H E w Q fun v d m1 G1 H1 g r ⟨m2, e1, p⟩ => by
  have g2 := Gr.sub g.wd e1
  exact k _ _ _ _ _ (g.trans g2) r p
/-- a + b of lists, a list of its own -/
theorem we_catO {la lb : List PyData} {P : SD → MS → Prop} (ha : EE X a ds (Ls la)) (hb : EE X b ds (Ls lb)) (hl : la.length + lb.length ≤ 1000000) (k : ∀ p, p ∉ ad m → P (.raw (.ref p)) ((p, .dl (la ++ lb)) :: m)) : WE X (.BinOp a .Add b pos) ds m P := fun σ G H E w Q q => by
  intro pins s I
  refine wpAny_BinOp (binT (pE a) (pE b) (R := fun x y H => ∃ a b xs ys, x = .ref a ∧ y = .ref b ∧ SqL X.K H a xs ∧ SqL X.K H b ys ∧ xs.length + ys.length ≤ 1000000 ∧ ∀ p, H p = none → Q (.ref p) (upd H p (.lst (xs ++ ys)))) I ?_ fun v u s2 x y H2 I2 rx ry hr => op_catD pins s2 σ H2 x y v u Q I2 rx ry hr)
  refine ha m σ G H E w _ fun v x m1 G1 H1 g1 r1 ⟨e1, e2⟩ => ?_
  subst e1 e2
  refine hb m1 σ G1 H1 (E.mono g1.g) g1.wd _ fun u y m2 G2 H2 g2 r2 ⟨e1, e2⟩ => ?_
  subst e1 e2
  obtain ⟨p1, xs, rfl, h1, h2⟩ := ds_lst (ds_mono g2.g r1)
  obtain ⟨p2, ys, rfl, h3, h4⟩ := ds_lst r2
  have l1 := dpa_length h2
  have l2 := dpa_length h4
  refine ⟨p1, p2, xs, ys, rfl, rfl, ex_l g2.wd.w h1, ex_l g2.wd.w h3, by omega, fun p hp => ?_⟩
  have g := Gr.made (o := .lst (xs ++ ys)) (v := .dl (la ++ lb)) g2.wd hp ⟨_, rfl, dpa_append h2 h4⟩
  have fresh : p ∉ ad m2 := (List.nodup_cons.mp g.wd.nd).1
  exact q _ _ _ _ _ ((g1.trans g2).trans g) (.raw _) (k p fresh)
end
/-! ### all that is shown, by a test -/
def repB (d : PyData) : Bool := decide (d.depth ≤ 50) && d.showable && !d.hasDict && d.leavesShort 13 && decide (d.bulk ≤ 2 ^ 20)
theorem rep_by {d : PyData} (h : repB d = true) : Rep d := by
  unfold repB at h
  simp only [Bool.and_eq_true, decide_eq_true_eq, Bool.not_eq_true'] at h
  exact ⟨h.1.1.1.1, h.1.1.1.2, h.1.1.2, h.1.2, h.2⟩
def szDue (bl pg fs : PyData) : Due := if intB 4 64 bl = false then some (.size, bl) else if intB 4 16 pg = false then some (.size, pg) else if faultsB fs = false then some (.faults, fs) else none
def gdT : PyData := .tuple [.int 3, tx cutL, tx [48, 102]]
def fT (i : PyData) (w p : List Nat) : PyData := .tuple [i, tx w, tx p]
def fsA : List PyData := [.tuple [], .tuple [gdT], .tuple [gdT, fT (.int 5) badL [102]], .tuple [gdT, gdT], .tuple [fT (.int 5) badL [102], gdT], .list [gdT], .none]
def fsB : List PyData := [.tuple [fT (.int 0) cutL [102]], .tuple [fT (.bool true) cutL [102]], .tuple [fT (.int 1) [111, 102, 102] [102]], .tuple [fT (.int 1) cutL []], .tuple [.tuple [.int 3, tx cutL]]]
def fsC : List PyData := [.tuple [fT (.int 1) cutL [103]], .tuple [fT (.int 1) cutL (List.replicate 257 102)], .tuple [fT (.int 1) cutL [70]], .tuple [.list [.int 3, tx cutL, tx [48, 102]]]]
def fsX : PyData := .tuple [fT (.int 1) cutL (List.replicate 256 102)]
def fsAll : List PyData := fsA ++ fsB ++ fsC ++ [fsX]
theorem fs_all : ∀ d ∈ fsAll, repB d = true ∧ gdB d = true := by decide +kernel
end W9
namespace W9
namespace K15
open PySem PySem.Spec PyProof.Rows L2 LamX
section
variable {P : Program} {w : World} {K : PySem.W.Frag} {mg : Str → Option Value} {base : Heap}
/-- a call that may raise, as a lambda, and what is due -/
theorem wk_raised (T : Tx P K mg) {N : List Str} {q : Str} {sc : Scope} {f : Addr} {cd : Value} {A : Around} {outer : List Env} {s : Shared} {H : Hp} {E : XK} {ds : DE} {m : MS} {params : Arguments} {body e2 : Expr} {scope : Scope} {lp pos p : Pos} {c t : Addr} {k : Nat} {due : Due} {Pp : SD → MS → Prop}
    (TB : TabB base mg c t) (hcode : cd = .ref c) (hT : (t, OV.tab ((bX P w K mg base N q sc f cd A outer s H E).env.qual ++ "<lambda>")) ∈ m) (L : LamS sc scope) (hdef : defaultsOf params (bX P w K mg base N q sc f cd A outer s H E).env = ([], []))
    (hbind : ∀ (pm cv ctv : Value), bindArgs (PySem.W.kla_fn "<lambda>" ((bX P w K mg base N q sc f cd A outer s H E).env.qual ++ "<lambda>") params body scope (cloFrom (bX P w K mg base N q sc f cd A outer s H E).env.cells scope.names []) pm cv ctv) ⟨[], []⟩ = pure [])
    (h2 : EE (bX P w K mg base N q sc f cd A outer s H E) e2 ds (.py (dueP due))) (hr : Rm (k + 3) (bX P w K mg base N q sc f cd A outer s H E).A) (hk : 1 ≤ k) (hrep : ∀ e d, due = some (e, d) → Rep d)
    (hbody : ∀ A' outer' s' H' E' f' c', Rm k (A'.deeper (lamEnv (bX P w K mg base N q sc f cd A outer s H E) scope s'.heap.objs.size f' c')) → XEx (lamCx (bX P w K mg base N q sc f cd A outer s H E) A' outer' s' H' E' scope f' c') body ds m (fun d m2 => due = none ∧ Pp (B true) m2) fun C y _ m2 => ∃ e d, due = some (e, d) ∧ C = errA T e ∧ y = .py d ∧ Pp (B true) m2)
    (hg : Gl (bX P w K mg base N q sc f cd A outer s H E) "_law_is_raised" := by rfl) (hs : starEach [.Lambda params body scope lp, e2] (bX P w K mg base N q sc f cd A outer s H E).env = (false, eval (.Lambda params body scope lp) (bX P w K mg base N q sc f cd A outer s H E).env) :: starEach [e2] (bX P w K mg base N q sc f cd A outer s H E).env := by rfl)
    (hs2 : starEach [e2] (bX P w K mg base N q sc f cd A outer s H E).env = (false, eval e2 (bX P w K mg base N q sc f cd A outer s H E).env) :: starEach [] (bX P w K mg base N q sc f cd A outer s H E).env := by rfl)
    (hpl : (backTo pos (starEach [e2] (bX P w K mg base N q sc f cd A outer s H E).env)).any (·.1) = false := by rfl) :
    WE (bX P w K mg base N q sc f cd A outer s H E) (.Call (.Name "_law_is_raised" p) [.Lambda params body scope lp, e2] [] pos) ds m Pp := by
  refine we_raised (X := bX P w K mg base N q sc f cd A outer s H E) (st := (topS 55)) (stH := (topS 40)) (rest := raisedRest) (k := k) (j := 0) (q := (bX P w K mg base N q sc f cd A outer s H E).env.qual ++ "<lambda>") (cl := cloFrom (bX P w K mg base N q sc f cd A outer s H E).env.cells scope.names []) (params := params) (body := body) (scope := scope) T.F__law_is_raised rfl sc__law_is_raised T.m__law_is_raised T.b__law_is_raised rfl rfl rfl rfl rfl rfl T.F__law_heard rfl rfl T.m__law_heard T.mD T.b__law_heard (fun _ _ => rfl) hr L rfl rfl hbind
    (wa_cons (we_lam TB hcode hT L rfl hdef (wa_cons (EE.to h2 (wa_nil ⟨.py (dueP due), rfl, hbody, fun d m2 ⟨e1, hp⟩ => ?_, fun C y m2 ⟨e, d, e1, e2, e3, hp⟩ => ?_⟩)) hs2)) hs) hg hs hpl
  · intro cdv A outer s H fE hr
    rw [e1]
    exact rest_no T hp
  · subst e2 e3
    refine ⟨errXm T e, ?_⟩
    intro cdv A outer s H fE hr
    rw [e1]
    exact rest_err T (hrep e d e1) (hr.mono (by omega)) hp
end
end K15
end W9
namespace W9
open PySem PySem.Spec PyProof.Rows L2
/-! ### what is written in the text as data -/
mutual
def conD (lk : Str → Option PyData) : Expr → Option PyData
  | .Constant .none _ _ => some .none
  | .Constant (.bool b) _ _ => some (.bool b)
  | .Constant (.int i) _ _ => some (.int i)
  | .Constant (.str s) _ _ => some (.str s)
  | .Name x _ => lk x
  | .UnaryOp .USub a _ => match conD lk a with
    | some (.int i) => some (.int (-i))
    | _ => none
  | .BinOp a .Mult b _ => match conD lk a, conD lk b with
    | some (.str s), some (.int n) => if 0 ≤ n ∧ n ≤ 1000000 ∧ s.cps.toList.length * n.toNat ≤ 1000000 then some (tx (rep n.toNat s.cps.toList)) else none
    | _, _ => none
  | .Tuple es _ _ => match conL lk es with
    | some l => if l.length ≤ 1000 then some (.tuple l) else none
    | none => none
  | .List es _ => match conL lk es with
    | some l => if l.length ≤ 1000 then some (.list l) else none
    | none => none
  | _ => none
def conL (lk : Str → Option PyData) : List Expr → Option (List PyData)
  | [] => some []
  | e :: es => match conD lk e, conL lk es with
    | some d, some l => some (d :: l)
    | _, _ => none
end
section
variable {X : Cx} {ds : DE} {lk : Str → Option PyData}
theorem star_con {e : Expr} {d : PyData} {es : List Expr} {env : Env} (h : conD lk e = some d) : starEach (e :: es) env = (false, eval e env) :: starEach es env := by
  cases e <;> first | rfl | (unfold conD at h; cases h)
mutual
theorem con_ok (hk : ∀ x d pos, lk x = some d → EE X (.Name x pos) ds (.py d)) : ∀ (e : Expr) (d : PyData), conD lk e = some d → EE X e ds (.py d)
  | .Constant c j p, d, h => by
    cases c with
    | none => unfold conD at h; cases h; exact ee_non
    | bool b => unfold conD at h; cases h; exact ee_bl
    | int i => unfold conD at h; cases h; exact ee_int
    | str s => unfold conD at h; cases h; exact ee_str
    | _ => unfold conD at h; cases h
  | .Name x p, d, h => by
    unfold conD at h
    exact hk _ _ _ h
  | .UnaryOp op a p, d, h => by
    cases op with
    | USub =>
      unfold conD at h
      cases e : conD lk a with
      | none => rw [e] at h; cases h
      | some z =>
        rw [e] at h
        have q := con_ok hk a z e
        cases z with
        | int i => cases h; exact ee_neg q
        | _ => cases h
    | _ => unfold conD at h; cases h
  | .BinOp a op b p, d, h => by
    cases op with
    | Mult =>
      unfold conD at h
      cases e : conD lk a with
      | none => rw [e] at h; cases h
      | some z =>
        cases e2 : conD lk b with
        | none => rw [e, e2] at h; cases z <;> cases h
        | some y =>
          rw [e, e2] at h
          have q := con_ok hk a z e
          have q2 := con_ok hk b y e2
          cases z with
          | str s =>
            cases y with
            | int n =>
              have h : (if 0 ≤ n ∧ n ≤ 1000000 ∧ s.cps.toList.length * n.toNat ≤ 1000000 then some (tx (rep n.toNat s.cps.toList)) else none) = some d := h
              split at h
              · rename_i g
                cases h
                have q : EE X a ds (S s.cps.toList) := by
                  have : SD.py (.str s) = S s.cps.toList := congrArg (fun z => SD.py (.str z)) (str_eta s)
                  rw [← this]; exact q
                exact ee_bin q q2 (bd_mulS ⟨g.2.1, by omega, g.2.2⟩)
              · cases h
            | _ => cases h
          | _ => cases h
    | _ => unfold conD at h; cases h
  | .Tuple es k p, d, h => by
    unfold conD at h
    cases e : conL lk es with
    | none => rw [e] at h; cases h
    | some l =>
      rw [e] at h
      have h : (if l.length ≤ 1000 then some (PyData.tuple l) else none) = some d := h
      split at h
      · cases h
        exact ee_tup (conl_ok hk es l e) (by omega)
      · cases h
  | .List es p, d, h => by
    unfold conD at h
    cases e : conL lk es with
    | none => rw [e] at h; cases h
    | some l =>
      rw [e] at h
      have h : (if l.length ≤ 1000 then some (PyData.list l) else none) = some d := h
      split at h
      · cases h
        exact ee_lst (conl_ok hk es l e) (by omega)
      · cases h
  | .BoolOp .., d, h => by unfold conD at h; cases h
  | .NamedExpr .., d, h => by unfold conD at h; cases h
  | .Lambda .., d, h => by unfold conD at h; cases h
  | .IfExp .., d, h => by unfold conD at h; cases h
  | .Dict .., d, h => by unfold conD at h; cases h
  | .Set .., d, h => by unfold conD at h; cases h
  | .Compare .., d, h => by unfold conD at h; cases h
  | .Call .., d, h => by unfold conD at h; cases h
theorem conl_ok (hk : ∀ x d pos, lk x = some d → EE X (.Name x pos) ds (.py d)) : ∀ (es : List Expr) (l : List PyData), conL lk es = some l → EAp X es ds l
  | [], l, h => by
    unfold conL at h
    cases h
    exact eap_nil
  | e :: es, l, h => by
    unfold conL at h
    cases e1 : conD lk e with
    | none => rw [e1] at h; cases h
    | some d =>
      cases e2 : conL lk es with
      | none => rw [e1, e2] at h; cases h
      | some l2 =>
        rw [e1, e2] at h
        cases h
        exact eap_cons (con_ok hk e d e1) (conl_ok hk es l2 e2) (star_con e1)
end
end
theorem ee_con {X : Cx} {ds : DE} {e : Expr} (d : PyData) (h : conD (fun _ => none) e = some d) : EE X e ds (.py d) := con_ok (lk := fun _ => none) (fun _ _ _ z => by cases z) e d h
theorem ee_con1 {X : Cx} {ds : DE} {e : Expr} (x : Str) (i : Nat) (v d : PyData) (h : conD (fun y => if y = x then some v else none) e = some d) (hv : ∀ pos, EE X (.Name x pos) ds (.py v)) : EE X e ds (.py d) := con_ok (lk := fun y => if y = x then some v else none) (fun y d pos z => by
  by_cases g : y = x
  · rw [if_pos g] at z; cases z; rw [g]; exact hv pos
  · rw [if_neg g] at z; cases z) e d h
def blL : List PyData := [.int 4, .int 64, .int 5, .int 3, .int 65, .int 0, .int (-4), .bool true, .none, .str "4", .tuple [.int 4], .int 4, .int 6]
def pgL : List PyData := [.int 4, .int 16, .int 5, .int 3, .int 17, .int 0, .none, .bool true, .list [.int 4], .int 4, .int 8]
theorem bl_all : ∀ d ∈ blL, repB d = true := by decide +kernel
theorem pg_all : ∀ d ∈ pgL, repB d = true := by decide +kernel
theorem star_lst {es rest : List Expr} {pos : Pos} {env : Env} : starEach (.List es pos :: rest) env = (false, eval (.List es pos) env) :: starEach rest env := rfl
theorem star_tup {es rest : List Expr} {k : Nat} {pos : Pos} {env : Env} : starEach (.Tuple es k pos :: rest) env = (false, eval (.Tuple es k pos) env) :: starEach rest env := rfl
theorem star_sub {a b : Expr} {rest : List Expr} {pos : Pos} {env : Env} : starEach (.Subscript a b pos :: rest) env = (false, eval (.Subscript a b pos) env) :: starEach rest env := rfl
theorem star_call {a : Expr} {es : List Expr} {ks : List Keyword} {rest : List Expr} {pos : Pos} {env : Env} : starEach (.Call a es ks pos :: rest) env = (false, eval (.Call a es ks pos) env) :: starEach rest env := rfl
theorem star_name {x : Str} {rest : List Expr} {pos : Pos} {env : Env} : starEach (.Name x pos :: rest) env = (false, eval (.Name x pos) env) :: starEach rest env := rfl
theorem star_cst {c : Const} {j : Nat} {rest : List Expr} {pos : Pos} {env : Env} : starEach (.Constant c j pos :: rest) env = (false, eval (.Constant c j pos) env) :: starEach rest env := rfl
theorem star_bin {a b : Expr} {o : Operator} {rest : List Expr} {pos : Pos} {env : Env} : starEach (.BinOp a o b pos :: rest) env = (false, eval (.BinOp a o b pos) env) :: starEach rest env := rfl
end W9
namespace W9
open PySem PySem.Spec PyProof.Rows L2
section
variable {X : Cx} {ds : DE} {m : MS}
theorem eap_app (hk : ∀ x d pos, lk x = some d → EE X (.Name x pos) ds (.py d)) : ∀ (es : List Expr) (l : List PyData) {es2 : List Expr} {l2 : List PyData}, conL lk es = some l → EAp X es2 ds l2 → EAp X (es ++ es2) ds (l ++ l2)
  | [], l, es2, l2, h, h2 => by
    unfold conL at h
    cases h
    exact h2
  | e :: es, l, es2, l2, h, h2 => by
    unfold conL at h
    cases e1 : conD lk e with
    | none => rw [e1] at h; cases h
    | some d =>
      cases e2 : conL lk es with
      | none => rw [e1, e2] at h; cases h
      | some l3 =>
        rw [e1, e2] at h
        cases h
        exact eap_cons (con_ok hk e d e1) (eap_app hk es l3 e2 h2) (star_con e1)
theorem ee_tup1 {a : Expr} {k : Nat} {pos : Pos} {d : PyData} (h : EE X a ds (.py d)) (hs : starEach [a] X.env = (false, eval a X.env) :: starEach [] X.env) : EE X (.Tuple [a] k pos) ds (Tp [d]) := ee_tup (eap_cons h eap_nil hs) (by show 1 ≤ 1000000; decide)
/-- constants, and one more -/
theorem ee_lC (L : List PyData) {es : List Expr} {e : Expr} {pos : Pos} {d : PyData} (h : conL (fun _ => none) es = some L) (hl : L.length ≤ 1000) (h2 : EE X e ds (.py d)) (hs : starEach [e] X.env = (false, eval e X.env) :: starEach [] X.env) : EE X (.List (es ++ [e]) pos) ds (Ls (L ++ [d])) :=
  ee_lst (eap_app (lk := fun _ => none) (fun _ _ _ z => by cases z) es L h (eap_cons h2 eap_nil hs)) (by rw [List.length_append]; show L.length + 1 ≤ 1000000; omega)
theorem ee_l5 (L : List PyData) {a b c f e : Expr} {pos : Pos} {d : PyData} (h : conL (fun _ => none) [a, b, c, f] = some L) (hl : L.length ≤ 1000) (h2 : EE X e ds (.py d)) (hs : starEach [e] X.env = (false, eval e X.env) :: starEach [] X.env) : EE X (.List [a, b, c, f, e] pos) ds (Ls (L ++ [d])) := ee_lC (es := [a, b, c, f]) L h hl h2 hs
theorem ee_l4 (L : List PyData) {a b c e : Expr} {pos : Pos} {d : PyData} (h : conL (fun _ => none) [a, b, c] = some L) (hl : L.length ≤ 1000) (h2 : EE X e ds (.py d)) (hs : starEach [e] X.env = (false, eval e X.env) :: starEach [] X.env) : EE X (.List [a, b, c, e] pos) ds (Ls (L ++ [d])) := ee_lC (es := [a, b, c]) L h hl h2 hs
end
end W9
namespace W9
open PySem PySem.Spec PyProof.Rows L2
theorem srt_congr {a b : List Int} (h : a.Perm b) : srtI a = srtI b := sorted_one ((srtI_perm a).trans (h.trans (srtI_perm b).symm)) (srtI_sorted a) (srtI_sorted b)
theorem mem_srt {l : List Int} {b : Int} : b ∈ srtI l ↔ b ∈ l := (srtI_perm l).mem_iff
theorem own_word {c : Chp} {wr : List (Int × List Nat)} : (c.own wr).word = c.word.getD ([], []) := by
  unfold Own.word Chp.word Chp.own
  dsimp only
  cases c.fs.find? fun q => decide (q.1 = c.done + 1) <;> rfl
theorem wrGet_put_self {l : List (Int × List Nat)} {i : Int} {t : List Nat} : wrGet (putW l i t) i = t := by
  unfold putW wrGet
  by_cases h : i ∈ l.map (·.1)
  · rw [if_pos h]
    induction l with
    | nil => cases h
    | cons q l ih =>
      rw [List.map_cons]
      by_cases e : q.1 = i
      · rw [if_pos e, List.find?_cons_of_pos (by simp)]
        rfl
      · rw [if_neg e, List.find?_cons_of_neg (by simpa using e)]
        refine ih ?_
        rw [List.map_cons] at h
        rcases List.mem_cons.mp h with z | z
        · exact absurd z.symm e
        · exact z
  · rw [if_neg h, List.find?_append]
    have : l.find? (fun q => decide (q.1 = i)) = none := by
      rw [List.find?_eq_none]
      intro q hq z
      exact h (List.mem_map.mpr ⟨q, hq, of_decide_eq_true z⟩)
    rw [this]
    simp
theorem wrGet_put_ne {l : List (Int × List Nat)} {i j : Int} {t : List Nat} (hj : j ≠ i) : wrGet (putW l i t) j = wrGet l j := by
  unfold putW wrGet
  by_cases h : i ∈ l.map (·.1)
  · rw [if_pos h]
    clear h
    induction l with
    | nil => rfl
    | cons q l ih =>
      rw [List.map_cons]
      by_cases e : q.1 = i
      · rw [if_pos e, List.find?_cons_of_neg (by simpa using fun z => hj z.symm), List.find?_cons_of_neg (by rw [e]; simpa using fun z => hj z.symm)]
        exact ih
      · rw [if_neg e]
        by_cases e2 : q.1 = j
        · rw [List.find?_cons_of_pos (by simpa using e2), List.find?_cons_of_pos (by simpa using e2)]
        · rw [List.find?_cons_of_neg (by simpa using e2), List.find?_cons_of_neg (by simpa using e2)]
          exact ih
  · rw [if_neg h, List.find?_append]
    cases l.find? (fun q => decide (q.1 = j)) with
    | some q => rfl
    | none => simp [Ne.symm hj]
theorem putW_keys {l : List (Int × List Nat)} {i : Int} {t : List Nat} (nd : (l.map (·.1)).Nodup) : ((putW l i t).map (·.1)).Nodup := by
  unfold putW
  by_cases h : i ∈ l.map (·.1)
  · rw [if_pos h, List.map_map]
    have : l.map ((fun q : Int × List Nat => q.1) ∘ fun q => if q.1 = i then (i, t) else q) = l.map (·.1) := by
      refine List.map_congr_left fun q _ => ?_
      show (if q.1 = i then (i, t) else q).1 = q.1
      by_cases e : q.1 = i
      · rw [if_pos e]; exact e.symm
      · rw [if_neg e]
    rw [this]
    exact nd
  · rw [if_neg h, List.map_append]
    exact List.nodup_append.mpr ⟨nd, by simp, fun a ha b hb e => by
      rw [List.map_cons, List.map_nil] at hb
      have e : a = i := by rw [e, List.mem_singleton.mp hb]
      exact h (e ▸ ha)⟩
theorem putW_len {l : List (Int × List Nat)} {i : Int} {t : List Nat} : (putW l i t).length ≤ l.length + 1 := by
  unfold putW
  split
  · rw [List.length_map]; omega
  · rw [List.length_append]; exact Nat.le_refl _
theorem mem_putI {l : List Int} {i j : Int} : j ∈ putI l i ↔ j ∈ l ∨ j = i := by
  unfold putI
  split
  · rename_i h
    exact ⟨.inl, fun z => z.elim id fun e => e ▸ h⟩
  · rw [List.mem_append, List.mem_singleton]
theorem mem_delI {l : List Int} {i j : Int} : j ∈ delI l i ↔ j ∈ l ∧ j ≠ i := by
  unfold delI
  rw [List.mem_filter]
  simp
theorem getD_set {α : Type} {l : List α} {i j : Nat} {a d : α} (hi : i < l.length) : (l.set i a).getD j d = if j = i then a else l.getD j d := by
  rw [List.getD_eq_getElem?_getD, List.getD_eq_getElem?_getD, List.getElem?_set]
  by_cases h : i = j
  · subst h
    rw [if_pos rfl, if_pos rfl, if_pos hi]
    rfl
  · rw [if_neg h, if_neg (Ne.symm h)]
/-- a page: what may fall, in both books -/
def PgOk (c : Chp) (wr : List (Int × List Nat)) (i : Int) : Prop := (c.cells.getD i.toNat [] = emptyL → i ∉ c.wr ∧ (wrGet wr i = [] ∨ wrGet wr i = emptyL)) ∧ (c.cells.getD i.toNat [] ≠ emptyL → (i ∈ c.wr ↔ wrGet wr i = c.cells.getD i.toNat []))
structure Sim (n : Nat) (c : Chp) (wr : List (Int × List Nat)) : Prop where
  w : WfC c
  g : c.bl = 4 ∧ c.pg = 4
  p : ∀ i : Int, 0 ≤ i → i < 16 → PgOk c wr i
  k : (wr.map (·.1)).Nodup
  lw : wr.length ≤ n
  lb : c.bad.length ≤ n ∧ ∀ b ∈ c.bad, 0 ≤ b ∧ b < 4
  lr : c.wr.length ≤ n
  lf : c.fs.length ≤ n + 1
  ld : 0 ≤ c.done ∧ c.done ≤ n
  lc : 0 ≤ c.cuts ∧ c.cuts ≤ n
  lx : ∀ x ∈ c.wear, 0 ≤ x ∧ x ≤ n
  lk : ∀ q ∈ c.fs, 0 ≤ q.1 ∧ q.1 ≤ n + 10
def outDue : Out → Due
  | .inl q => some q
  | .inr _ => none
theorem Sim.up {n : Nat} {c : Chp} {wr : List (Int × List Nat)} (h : Sim n c wr) : Sim (n + 1) c wr := ⟨h.w, h.g, h.p, h.k, by have := h.lw; omega, ⟨by have := h.lb.1; omega, h.lb.2⟩, by have := h.lr; omega, by have := h.lf; omega, ⟨h.ld.1, by have := h.ld.2; push_cast; omega⟩, ⟨h.lc.1, by have := h.lc.2; push_cast; omega⟩, fun x hx => ⟨(h.lx x hx).1, by have := (h.lx x hx).2; push_cast; omega⟩, fun q hq => ⟨(h.lk q hq).1, by have := (h.lk q hq).2; push_cast; omega⟩⟩
def ToldIs (told : PyData) (o : Out) : Prop := (told = tx cutL ∧ outDue o = some (.cut, .none)) ∨ ((∃ b, told = .bool b) ∧ outDue o = none)
/-- the deed's end, in both books -/
theorem end_deed {c : Chp} {wr : List (Int × List Nat)} {b : Int} {w : Wo} (hw : WoOk w) : ∃ told, (c.own wr).deed b (w.getD ([], [])).1 = ((((c.begun).endD b w).2).own wr, told) ∧ ToldIs told ((c.begun).endD b w).1 := by
  match w, hw with
  | none, _ => exact ⟨_, rfl, .inr ⟨⟨_, rfl⟩, rfl⟩⟩
  | some (w, p), hw =>
    rcases hw.1 with rfl | rfl
    · exact ⟨_, rfl, .inl ⟨rfl, rfl⟩⟩
    · have e : (c.begun).endD b (some (badL, p)) = (.inr (.bool (!decide (b ∈ putI c.bad b))), { c.begun with bad := putI c.bad b }) := by
        unfold Chp.endD
        dsimp only
        rw [if_neg (by decide), if_pos rfl]
        rfl
      rw [e]
      by_cases hb : b ∈ c.bad
      · refine ⟨.bool (!decide (b ∈ srtI c.bad)), ?_, .inr ⟨⟨_, rfl⟩, rfl⟩⟩
        unfold Own.deed Chp.own Chp.begun
        dsimp only [Option.getD]
        rw [if_neg (by decide), if_neg (fun z => z.2 (mem_srt.mpr hb))]
        unfold putI
        rw [if_pos hb]
      · refine ⟨.bool (!decide (b ∈ srtI (srtI c.bad ++ [b]))), ?_, .inr ⟨⟨_, rfl⟩, rfl⟩⟩
        unfold Own.deed Chp.own Chp.begun
        dsimp only [Option.getD]
        rw [if_neg (by decide), if_pos ⟨rfl, fun z => hb (mem_srt.mp z)⟩]
        unfold putI
        rw [if_neg hb]
        try dsimp only
        rw [srt_congr ((srtI_perm c.bad).append_right [b])]
theorem endD_fld {c : Chp} {b : Int} {w : Wo} : (c.endD b w).2.cells = c.cells ∧ (c.endD b w).2.wr = c.wr ∧ (c.endD b w).2.wear = c.wear ∧ (c.endD b w).2.fs = c.fs ∧ (c.endD b w).2.done = c.done ∧ (c.endD b w).2.bl = c.bl ∧ (c.endD b w).2.pg = c.pg
    ∧ ((c.endD b w).2.cuts = c.cuts ∨ (c.endD b w).2.cuts = c.cuts + 1) ∧ ((c.endD b w).2.bad = c.bad ∨ (c.endD b w).2.bad = putI c.bad b) := by
  unfold Chp.endD
  split
  · exact ⟨rfl, rfl, rfl, rfl, rfl, rfl, rfl, .inl rfl, .inl rfl⟩
  · split
    · exact ⟨rfl, rfl, rfl, rfl, rfl, rfl, rfl, .inr rfl, .inl rfl⟩
    · split
      · exact ⟨rfl, rfl, rfl, rfl, rfl, rfl, rfl, .inl rfl, .inr rfl⟩
      · exact ⟨rfl, rfl, rfl, rfl, rfl, rfl, rfl, .inl rfl, .inl rfl⟩
end W9
namespace W9
open PySem PySem.Spec PyProof.Rows L2
theorem endD_with {c : Chp} {b : Int} {w : Wo} {X : List (List Nat)} {Y Z : List Int} : ({ c with cells := X, wr := Y, wear := Z }).endD b w = ((c.endD b w).1, { (c.endD b w).2 with cells := X, wr := Y, wear := Z }) := by
  match w with
  | none => rfl
  | some (w, p) =>
    unfold Chp.endD
    dsimp only
    split
    · rfl
    · split <;> rfl
theorem sim_end {n : Nat} {c : Chp} {wr : List (Int × List Nat)} {b : Int} {w : Wo} {X : List (List Nat)} {Y Z : List Int} {Y' : List (Int × List Nat)} (h : Sim n c wr) (hn : n ≤ 50) (hb : 0 ≤ b ∧ b < 4) (hX : X.length = c.cells.length) (hXe : ∀ t ∈ X, HexL t ∧ t.length = 256) (hY : Y.length ≤ n + 1)
    (hZ : Z.length = c.wear.length) (hZe : ∀ x ∈ Z, 0 ≤ x ∧ x ≤ ((n + 1 : Nat) : Int)) (nd : (Y'.map (·.1)).Nodup) (hl : Y'.length ≤ n + 1) (hp : ∀ i : Int, 0 ≤ i → i < 16 → (X.getD i.toNat [] = emptyL → i ∉ Y ∧ (wrGet Y' i = [] ∨ wrGet Y' i = emptyL)) ∧ (X.getD i.toNat [] ≠ emptyL → (i ∈ Y ↔ wrGet Y' i = X.getD i.toNat []))) :
    Sim (n + 1) { (c.begun.endD b w).2 with cells := X, wr := Y, wear := Z } Y' := by
  obtain ⟨e1, e2, e3, e4, e5, e6, e7, e8, e9⟩ := endD_fld (c := c.begun) (b := b) (w := w)
  have hbad : (c.begun.endD b w).2.bad.length ≤ n + 1 ∧ ∀ b' ∈ (c.begun.endD b w).2.bad, 0 ≤ b' ∧ b' < 4 := by
    have := h.lb
    rcases e9 with e | e
    · rw [e]; exact ⟨by show c.bad.length ≤ n + 1; omega, this.2⟩
    · rw [e]
      refine ⟨Nat.le_trans putI_len (by show c.bad.length + 1 ≤ n + 1; omega), fun b' hb' => ?_⟩
      rcases mem_putI.mp hb' with z | z
      · exact this.2 b' z
      · rw [z]; exact hb
  have hd : c.begun.done = c.done + 1 := rfl
  have hld := h.ld
  have hlc := h.lc
  refine ⟨⟨?_, ?_, hXe, ?_, ?_, ?_, ?_, ?_, ?_⟩, ?_, hp, nd, hl, hbad, hY, ?_, ?_, ?_, hZe, ?_⟩
  · show 4 ≤ (c.begun.endD b w).2.bl ∧ _ ∧ 4 ≤ (c.begun.endD b w).2.pg ∧ _
    rw [e6, e7]; exact h.w.b
  · show (X.length : Int) = (c.begun.endD b w).2.bl * (c.begun.endD b w).2.pg
    rw [e6, e7, hX]; exact h.w.cl
  · show (Z.length : Int) = (c.begun.endD b w).2.bl
    rw [e6, hZ]; exact h.w.wl
  · have := hbad.1
    show (c.begun.endD b w).2.bad.length ≤ 1000
    omega
  · show Y.length ≤ 100000
    omega
  · show (c.begun.endD b w).2.fs.length ≤ 60
    rw [e4]; exact h.w.fl
  · show ∀ q ∈ (c.begun.endD b w).2.fs, _
    rw [e4]; exact h.w.fk
  · show ((c.begun.endD b w).2.fs.map (·.1)).Nodup
    rw [e4]; exact h.w.fn
  · show (c.begun.endD b w).2.bl = 4 ∧ (c.begun.endD b w).2.pg = 4
    rw [e6, e7]; exact h.g
  · show (c.begun.endD b w).2.fs.length ≤ n + 1 + 1
    rw [e4]
    have := h.lf
    show c.fs.length ≤ _
    omega
  · show 0 ≤ (c.begun.endD b w).2.done ∧ (c.begun.endD b w).2.done ≤ _
    rw [e5, hd]
    push_cast
    omega
  · show 0 ≤ (c.begun.endD b w).2.cuts ∧ (c.begun.endD b w).2.cuts ≤ _
    have hc : c.begun.cuts = c.cuts := rfl
    push_cast
    rcases e8 with e | e <;> rw [e, hc] <;> omega
  · show ∀ q ∈ (c.begun.endD b w).2.fs, _
    rw [e4]
    exact fun q hq => ⟨(h.lk q hq).1, by have := (h.lk q hq).2; push_cast; omega⟩
theorem begun_eq {c : Chp} {b : Int} {w : Wo} : (c.begun.endD b w).2 = { (c.begun.endD b w).2 with cells := c.cells, wr := c.wr, wear := c.wear } := by
  have h := endD_with (c := c.begun) (b := b) (w := w) (X := c.cells) (Y := c.wr) (Z := c.wear)
  exact congrArg (·.2) h
theorem Sim.begun {n : Nat} {c : Chp} {wr : List (Int × List Nat)} {b : Int} {w : Wo} (h : Sim n c wr) (hn : n ≤ 50) (hb : 0 ≤ b ∧ b < 4) : Sim (n + 1) (c.begun.endD b w).2 wr := by
  rw [begun_eq]
  exact sim_end h hn hb rfl h.w.ce (by have := h.lr; omega) rfl (fun x hx => ⟨(h.lx x hx).1, by have := (h.lx x hx).2; push_cast; omega⟩) h.k (by have := h.lw; omega) h.p
/-- a write -/
theorem sim_write {n : Nat} {c : Chp} {wr : List (Int × List Nat)} {i : Int} {t : List Nat} (h : Sim n c wr) (hn : n ≤ 50) (hi : 0 ≤ i ∧ i < 16) (he : c.cells.getD i.toNat [] = emptyL) (ht : HexL t ∧ t.length = 256) :
    ∃ wr' told, (c.own wr).written i t = ((((c.begun.wrote c.word i t).endD (i / c.pg) c.word).2).own wr', told) ∧ ToldIs told ((c.begun.wrote c.word i t).endD (i / c.pg) c.word).1 ∧ Sim (n + 1) ((c.begun.wrote c.word i t).endD (i / c.pg) c.word).2 wr' := by
  have hwo := h.w.wo
  obtain ⟨told, e1, e2⟩ := end_deed (c := c) (wr := wr) (b := i / c.pg) hwo
  have hb : 0 ≤ i / c.pg ∧ i / c.pg < 4 := by rw [h.g.2]; omega
  have hcl := h.w.cl
  rw [h.g.1, h.g.2] at hcl
  have hlt : i.toNat < c.cells.length := by omega
  unfold Own.written
  dsimp only
  rw [own_word, show (c.own wr).pg = c.pg from rfl, e1]
  by_cases hbd : i / c.pg ∈ c.bad
  · have e3 : c.begun.wrote c.word i t = c.begun := by unfold Chp.wrote; rw [if_pos (show i / c.begun.pg ∈ c.begun.bad from hbd)]
    rw [e3, if_pos (show i / c.pg ∈ (c.own wr).bad from mem_srt.mpr hbd)]
    exact ⟨wr, told, rfl, e2, h.begun hn hb⟩
  · have e3 : c.begun.wrote c.word i t = { c.begun with cells := c.cells.set i.toNat (overW c.word t t), wr := if c.word.isNone && !decide (t = emptyL) then putI c.wr i else c.wr, wear := c.wear } := by unfold Chp.wrote; rw [if_neg (show ¬ i / c.begun.pg ∈ c.begun.bad from hbd)]; rfl
    have e4 := endD_with (c := c.begun) (b := i / c.pg) (w := c.word) (X := c.cells.set i.toNat (overW c.word t t)) (Y := if c.word.isNone && !decide (t = emptyL) then putI c.wr i else c.wr) (Z := c.wear)
    rw [e3, if_neg (show ¬ i / c.pg ∈ (c.own wr).bad from fun z => hbd (mem_srt.mp z)), e4]
    obtain ⟨hpe, _⟩ := (h.p i hi.1 hi.2).1 he
    have hpg := ((h.p i hi.1 hi.2).1 he).2
    have hov := overW_ok hwo ht ht
    have hlr := h.lr
    have hlw := h.lw
    refine ⟨if (c.word.getD ([], [])).1 = [] then putW wr i t else wr, told, ?_, e2, ?_⟩
    · have ex : (if (c.word.getD ([], [])).1 = [] then t else tornL t (c.word.getD ([], [])).2) = overW c.word t t := by
        match hw : c.word, hwo with
        | none, _ => rfl
        | some (w, p), hwo =>
          have : w ≠ [] := fun z => by rcases hwo.1 with e | e <;> rw [e] at z <;> cases z
          show (if w = [] then t else tornL t p) = tornL t p
          rw [if_neg this]
      rw [ex]
      have hz : ((c.begun.endD (i / c.pg) c.word).2).wear = c.wear := (endD_fld (c := c.begun) (b := i / c.pg) (w := c.word)).2.2.1
      unfold Chp.own
      dsimp only
      rw [hz]
    · refine sim_end h hn hb (by rw [List.length_set]) (set_ok h.w.ce hov) ?_ rfl (fun x hx => ⟨(h.lx x hx).1, by have := (h.lx x hx).2; push_cast; omega⟩) ?_ ?_ fun j j0 j1 => ?_
      · split
        · exact Nat.le_trans putI_len (by omega)
        · omega
      · split
        · exact putW_keys h.k
        · exact h.k
      · split
        · exact Nat.le_trans putW_len (by omega)
        · omega
      · rw [getD_set hlt]
        by_cases hj : j = i
        · subst hj
          rw [if_pos rfl]
          match hw : c.word, hwo with
          | none, _ =>
            show (t = emptyL → _) ∧ (t ≠ emptyL → _)
            refine ⟨fun z => ?_, fun z => ?_⟩
            · rw [z]
              refine ⟨by simpa using hpe, .inr ?_⟩
              show wrGet (putW wr j emptyL) j = emptyL
              exact wrGet_put_self
            · have : (true && !decide (t = emptyL)) = true := by rw [decide_eq_false z]; rfl
              show j ∈ (if (true && !decide (t = emptyL)) = true then putI c.wr j else c.wr) ↔ wrGet (putW wr j t) j = t
              rw [if_pos this]
              exact ⟨fun _ => wrGet_put_self, fun _ => mem_putI.mpr (.inr rfl)⟩
          | some (w, p), hwo =>
            rw [hw] at hov
            have hn2 : w ≠ [] := fun z => by rcases hwo.1 with e | e <;> rw [e] at z <;> cases z
            show (tornL t p = emptyL → j ∉ c.wr ∧ (wrGet (if w = [] then putW wr j t else wr) j = [] ∨ wrGet (if w = [] then putW wr j t else wr) j = emptyL)) ∧ (tornL t p ≠ emptyL → (j ∈ c.wr ↔ wrGet (if w = [] then putW wr j t else wr) j = tornL t p))
            rw [if_neg hn2]
            refine ⟨fun _ => ⟨hpe, hpg⟩, fun z => ⟨fun q => absurd q hpe, fun q => ?_⟩⟩
            rcases hpg with g | g
            · rw [g] at q
              have := hov.2
              show _
              exfalso
              have l2 : (tornL t p).length = 256 := this
              rw [← q] at l2
              cases l2
            · exact absurd (q.symm.trans g) z
        · have hne : ¬ j.toNat = i.toNat := fun z => hj (by omega)
          rw [if_neg hne]
          have hw1 : wrGet (if (c.word.getD ([], [])).1 = [] then putW wr i t else wr) j = wrGet wr j := by
            split
            · exact wrGet_put_ne hj
            · rfl
          have hm1 : j ∈ (if c.word.isNone && !decide (t = emptyL) then putI c.wr i else c.wr) ↔ j ∈ c.wr := by
            split
            · rw [mem_putI]; exact ⟨fun z => z.elim id fun q => absurd q hj, .inl⟩
            · exact Iff.rfl
          rw [hw1, hm1]
          exact h.p j j0 j1
end W9
namespace W9
open PySem PySem.Spec PyProof.Rows L2
theorem overW_own {w : Wo} (hw : WoOk w) {t u : List Nat} : (if (w.getD ([], [])).1 = [] then u else tornL t (w.getD ([], [])).2) = overW w t u := by
  match w, hw with
  | none, _ => rfl
  | some (w, p), hw =>
    have : w ≠ [] := fun z => by rcases hw.1 with e | e <;> rw [e] at z <;> cases z
    show (if w = [] then u else tornL t p) = tornL t p
    rw [if_neg this]
theorem eraseN_own {w : Wo} (hw : WoOk w) {lo : Int} {s : List (List Nat) × List Int} : ∀ n : Nat, ownEraseN (w.getD ([], [])) lo s.1 n = (eraseN w lo s n).1
  | 0 => rfl
  | n + 1 => by
    rw [ownEraseN_succ, eraseN_succ, eraseN_own hw n]
    unfold ownErase eraseAt
    rw [overW_own hw]
theorem eraseN_get {w : Wo} {lo : Int} {s : List (List Nat) × List Int} (hlo : 0 ≤ lo) : ∀ n : Nat, lo + (n : Int) ≤ s.1.length → ∀ j : Int, 0 ≤ j → (eraseN w lo s n).1.getD j.toNat [] = if lo ≤ j ∧ j < lo + (n : Int) then overW w (s.1.getD j.toNat []) emptyL else s.1.getD j.toNat []
  | 0, _, j, _ => by
    rw [if_neg (by push_cast; omega)]
    rfl
  | n + 1, hn, j, hj => by
    push_cast at hn
    have ih := eraseN_get (w := w) (s := s) hlo n (by omega)
    rw [eraseN_succ]
    unfold eraseAt
    dsimp only
    rw [getD_set (by rw [eraseN_len]; omega)]
    by_cases h : j = lo + (n : Int)
    · rw [if_pos (by rw [h]), if_pos (by push_cast; omega), ← h, ih j hj, if_neg (by omega)]
    · rw [if_neg (by omega), ih j hj]
      by_cases h2 : lo ≤ j ∧ j < lo + (n : Int)
      · rw [if_pos h2, if_pos (by push_cast; omega)]
      · rw [if_neg h2, if_neg (by push_cast; omega)]
theorem eraseN_mem {w : Wo} {lo : Int} {s : List (List Nat) × List Int} {j : Int} : ∀ n : Nat, j ∈ (eraseN w lo s n).2 ↔ j ∈ s.2 ∧ ¬ (lo ≤ j ∧ j < lo + (n : Int))
  | 0 => by
    show j ∈ s.2 ↔ _
    constructor
    · exact fun z => ⟨z, by push_cast; omega⟩
    · exact fun z => z.1
  | n + 1 => by
    rw [eraseN_succ]
    unfold eraseAt
    dsimp only
    rw [mem_delI, eraseN_mem n]
    push_cast
    constructor
    · rintro ⟨⟨a, b⟩, c⟩
      exact ⟨a, by omega⟩
    · rintro ⟨a, b⟩
      exact ⟨⟨a, by omega⟩, by omega⟩
theorem wrGet_filter {l : List (Int × List Nat)} {ps : List Int} {j : Int} : wrGet (l.filter fun q => !decide (q.1 ∈ ps)) j = if j ∈ ps then [] else wrGet l j := by
  unfold wrGet
  induction l with
  | nil => rw [List.filter_nil]; split <;> rfl
  | cons q l ih =>
    by_cases hq : q.1 ∈ ps
    · rw [List.filter_cons_of_neg (by simpa using hq), ih]
      by_cases hj : j ∈ ps
      · rw [if_pos hj, if_pos hj]
      · rw [if_neg hj, if_neg hj, List.find?_cons_of_neg (by
          have : ¬ q.1 = j := fun z => hj (z ▸ hq)
          simpa using this)]
    · rw [List.filter_cons_of_pos (by simpa using hq)]
      by_cases e : q.1 = j
      · rw [List.find?_cons_of_pos (by simpa using e), List.find?_cons_of_pos (by simpa using e), if_neg (fun z => hq (e ▸ z))]
      · rw [List.find?_cons_of_neg (by simpa using e), List.find?_cons_of_neg (by simpa using e), ih]
theorem mem_blk {lo : Int} {n : Nat} {j : Int} : j ∈ (List.range n).map (fun (k : Nat) => lo + (k : Int)) ↔ lo ≤ j ∧ j < lo + (n : Int) := by
  rw [List.mem_map]
  constructor
  · rintro ⟨k, hk, rfl⟩
    have := List.mem_range.mp hk
    omega
  · intro h
    exact ⟨(j - lo).toNat, List.mem_range.mpr (by omega), by omega⟩
/-- an erase -/
theorem sim_erase {n : Nat} {c : Chp} {wr : List (Int × List Nat)} {b : Int} (h : Sim n c wr) (hn : n ≤ 50) (hb : 0 ≤ b ∧ b < 4) :
    ∃ wr' told, (c.own wr).erased b = ((((c.begun.erased c.word b).endD b c.word).2).own wr', told) ∧ ToldIs told ((c.begun.erased c.word b).endD b c.word).1 ∧ Sim (n + 1) ((c.begun.erased c.word b).endD b c.word).2 wr' := by
  have hwo := h.w.wo
  obtain ⟨told, e1, e2⟩ := end_deed (c := c) (wr := wr) (b := b) hwo
  have hcl := h.w.cl
  have hwl := h.w.wl
  have hpg := h.g.2
  rw [h.g.1, h.g.2] at hcl
  rw [h.g.1] at hwl
  unfold Own.erased
  dsimp only
  rw [own_word, e1]
  by_cases hbd : b ∈ c.bad
  · have e3 : c.begun.erased c.word b = c.begun := by unfold Chp.erased; rw [if_pos (show b ∈ c.begun.bad from hbd)]
    rw [e3, if_pos (show b ∈ (c.own wr).bad from mem_srt.mpr hbd)]
    exact ⟨wr, told, rfl, e2, h.begun hn hb⟩
  · have e3 : c.begun.erased c.word b = { c.begun with cells := (eraseN c.word (b * c.pg) (c.cells, c.wr) c.pg.toNat).1, wr := (eraseN c.word (b * c.pg) (c.cells, c.wr) c.pg.toNat).2, wear := c.wear.set b.toNat (c.wear.getD b.toNat 0 + 1) } := by unfold Chp.erased; rw [if_neg (show ¬ b ∈ c.begun.bad from hbd)]; rfl
    have e4 := endD_with (c := c.begun) (b := b) (w := c.word) (X := (eraseN c.word (b * c.pg) (c.cells, c.wr) c.pg.toNat).1) (Y := (eraseN c.word (b * c.pg) (c.cells, c.wr) c.pg.toNat).2) (Z := c.wear.set b.toNat (c.wear.getD b.toNat 0 + 1))
    rw [e3, if_neg (show ¬ b ∈ (c.own wr).bad from fun z => hbd (mem_srt.mp z)), e4]
    have hbt : b.toNat < c.wear.length := by omega
    have hlo : 0 ≤ b * c.pg ∧ b * c.pg + (c.pg.toNat : Int) ≤ c.cells.length := by rw [hpg]; omega
    refine ⟨wr.filter fun q => !decide (q.1 ∈ (List.range c.pg.toNat).map fun (k : Nat) => b * c.pg + (k : Int)), told, ?_, e2, ?_⟩
    · unfold Chp.own
      dsimp only
      rw [eraseN_own (s := (c.cells, c.wr)) hwo]
    · refine sim_end h hn hb eraseN_len (eraseN_ok hwo h.w.ce hlo.1 _ hlo.2) (Nat.le_trans eraseN_wr (by have := h.lr; show c.wr.length ≤ _; omega)) (by rw [List.length_set]) (fun x hx => ?_) (List.Pairwise.sublist (List.Sublist.map _ List.filter_sublist) h.k) (Nat.le_trans (List.length_filter_le _ _) (by have := h.lw; omega)) fun j j0 j1 => ?_
      · rcases List.mem_or_eq_of_mem_set hx with z | z
        · exact ⟨(h.lx x z).1, by have := (h.lx x z).2; push_cast; omega⟩
        · have := h.lx (c.wear.getD b.toNat 0) (by rw [List.getD_eq_getElem?_getD, List.getElem?_eq_getElem hbt]; exact List.getElem_mem _)
          rw [z]
          push_cast
          omega
      · rw [eraseN_get hlo.1 _ hlo.2 j j0, eraseN_mem, wrGet_filter]
        by_cases hj : b * c.pg ≤ j ∧ j < b * c.pg + (c.pg.toNat : Int)
        · rw [if_pos hj, if_pos (mem_blk.mpr hj)]
          refine ⟨fun _ => ⟨fun z => z.2 hj, .inl rfl⟩, fun _ => ⟨fun z => absurd hj z.2, fun z => ?_⟩⟩
          have hl : j.toNat < c.cells.length := by omega
          have := (overW_ok hwo (getD_ok h.w.ce hl) empty_hex).2
          exfalso
          have l2 : (overW c.word (c.cells.getD j.toNat []) emptyL).length = 256 := this
          rw [← z] at l2
          cases l2
        · rw [if_neg hj, if_neg (fun z => hj (mem_blk.mp z))]
          have hp := h.p j j0 j1
          exact ⟨fun z => ⟨fun q => (hp.1 z).1 q.1, (hp.1 z).2⟩, fun z => ⟨fun q => (hp.2 z).mp q.1, fun q => ⟨(hp.2 z).mpr q, hj⟩⟩⟩
end W9
namespace W9
open PySem PySem.Spec PyProof.Rows L2
theorem lt_one (a b : Nat) : ([a] : List Nat) < [b] ↔ a < b := by simp [List.cons_lt_cons_iff]
theorem can_fade_own {n : Nat} {c : Chp} {wr : List (Int × List Nat)} {i : Int} {cell sign : PyData} (h : Sim n c wr) (hi : 0 ≤ i ∧ i < 16) : (c.own wr).canFade i cell sign = c.canFade i cell sign := by
  unfold Own.canFade Chp.canFade
  by_cases h0 : (intB 0 255 cell && cellsB 1 1 sign) = true
  · rw [if_neg (by rw [h0]; exact fun z => nomatch z), h0, Bool.true_and]
    rw [Bool.and_eq_true] at h0
    obtain ⟨u, rfl, u1, u2, uh⟩ := cellsB_of h0.2
    obtain ⟨ch, rfl⟩ : ∃ ch, u = [ch] := by
      match u, (show u.length = 1 by omega) with
      | [ch], _ => exact ⟨ch, rfl⟩
    rw [strL_tx]
    have hp := h.p i hi.1 hi.2
    show (if c.cells.getD i.toNat [] = emptyL ∨ wrGet wr i ≠ c.cells.getD i.toNat [] then false else decide (ch < (c.cells.getD i.toNat []).getD (toI cell).toNat 0)) = _
    by_cases he : c.cells.getD i.toNat [] = emptyL
    · rw [if_pos (.inl he), decide_eq_false ((hp.1 he).1)]
      rfl
    · by_cases hw : wrGet wr i = c.cells.getD i.toNat []
      · rw [if_neg (fun z => z.elim he fun q => q hw), decide_eq_true ((hp.2 he).mpr hw), Bool.true_and]
        exact decide_eq_decide.mpr (lt_one _ _).symm
      · rw [if_pos (.inr hw), decide_eq_false (fun z => hw ((hp.2 he).mp z))]
        rfl
  · have h0 : (intB 0 255 cell && cellsB 1 1 sign) = false := by simpa using h0
    rw [h0, if_pos rfl]
    rfl
theorem fadeT_set {t : List Nat} {k : Int} {ch : Nat} (hk : 0 ≤ k) (hl : k.toNat < t.length) : fadeT t k [ch] = t.set k.toNat ch := by
  obtain ⟨a, rfl⟩ : ∃ a : Nat, k = (a : Int) := ⟨k.toNat, by omega⟩
  rw [Int.toNat_natCast] at hl ⊢
  unfold fadeT
  rw [show ((a : Int) + 1) = ((a + 1 : Nat) : Int) by push_cast; rfl, cut_n0, List.set_eq_take_append_cons_drop, if_pos hl]
  rw [cut_0n, List.append_assoc]
  rfl
theorem hex_top : ∀ d ∈ hexS, d ≤ 102 := by decide +kernel
/-- a cell falls by itself -/
theorem sim_fade {n : Nat} {c : Chp} {wr : List (Int × List Nat)} {i : Int} {cell sign : PyData} (h : Sim n c wr) (hi : 0 ≤ i ∧ i < 16) (hc : c.canFade i cell sign = true) :
    ∃ (k : Int) (u : List Nat), cell = .int k ∧ sign = tx u ∧ (0 ≤ k ∧ k ≤ 255) ∧ u.length = 1 ∧ Sim n { c with cells := c.cells.set i.toNat (fadeT (c.cells.getD i.toNat []) k u), wr := delI c.wr i } wr := by
  unfold Chp.canFade at hc
  rw [Bool.and_eq_true, Bool.and_eq_true, Bool.and_eq_true, decide_eq_true_eq, decide_eq_true_eq] at hc
  obtain ⟨⟨h1, h2⟩, h3, h4⟩ := hc
  obtain ⟨k, rfl, k1, k2⟩ := intB_of h1
  obtain ⟨u, rfl, u1, u2, uh⟩ := cellsB_of h2
  have hu : u.length = 1 := by omega
  obtain ⟨ch, rfl⟩ : ∃ ch, u = [ch] := by
    match u, hu with
    | [ch], _ => exact ⟨ch, rfl⟩
  rw [strL_tx, lt_one] at h4
  have hcl := h.w.cl
  rw [h.g.1, h.g.2] at hcl
  have hlt : i.toNat < c.cells.length := by omega
  have ht := getD_ok h.w.ce hlt
  have hp := h.p i hi.1 hi.2
  have hne : c.cells.getD i.toNat [] ≠ emptyL := fun z => (hp.1 z).1 h3
  have hw := (hp.2 hne).mp h3
  generalize c.cells.getD i.toNat [] = t at ht h4 hne hw
  have hkt : k.toNat < t.length := by rw [ht.2]; omega
  have h4 : ch < t.getD k.toNat 0 := h4
  have hd : t.getD k.toNat 0 ∈ hexS := by
    rw [List.getD_eq_getElem?_getD, List.getElem?_eq_getElem hkt]
    exact ht.1 _ (List.getElem_mem _)
  have hd2 := hex_top _ hd
  have hf : fadeT t k [ch] = t.set k.toNat ch := fadeT_set k1 hkt
  refine ⟨k, [ch], rfl, rfl, ⟨k1, k2⟩, rfl, ?_⟩
  rw [hf]
  have hg : (t.set k.toNat ch).getD k.toNat 0 = ch := by rw [getD_set hkt, if_pos rfl]
  have ne1 : t.set k.toNat ch ≠ emptyL := fun z => by
    have e : (t.set k.toNat ch).getD k.toNat 0 = 102 := by
      rw [z, List.getD_eq_getElem?_getD, List.getElem?_replicate, if_pos (by omega)]
      rfl
    omega
  have ne2 : t ≠ t.set k.toNat ch := fun z => by
    rw [← z] at hg
    omega
  have hok : HexL (t.set k.toNat ch) ∧ (t.set k.toNat ch).length = 256 := ⟨fun x hx => by
    rcases List.mem_or_eq_of_mem_set hx with z | z
    · exact ht.1 x z
    · rw [z]; exact uh _ List.mem_cons_self, by rw [List.length_set]; exact ht.2⟩
  refine ⟨⟨h.w.b, ?_, set_ok h.w.ce hok, h.w.wl, h.w.bd, Nat.le_trans delI_len h.w.wr, h.w.fl, h.w.fk, h.w.fn⟩, h.g, fun j j0 j1 => ?_, h.k, h.lw, h.lb, Nat.le_trans delI_len h.lr, h.lf, h.ld, h.lc, h.lx, h.lk⟩
  · show ((c.cells.set i.toNat (t.set k.toNat ch)).length : Int) = c.bl * c.pg
    rw [List.length_set]
    exact h.w.cl
  · show ((c.cells.set i.toNat (t.set k.toNat ch)).getD j.toNat [] = emptyL → j ∉ delI c.wr i ∧ _) ∧ ((c.cells.set i.toNat (t.set k.toNat ch)).getD j.toNat [] ≠ emptyL → (j ∈ delI c.wr i ↔ wrGet wr j = (c.cells.set i.toNat (t.set k.toNat ch)).getD j.toNat []))
    rw [getD_set hlt, mem_delI]
    by_cases hj : j = i
    · subst hj
      rw [if_pos rfl, hw]
      exact ⟨fun z => absurd z ne1, fun _ => ⟨fun z => absurd rfl z.2, fun z => absurd z ne2⟩⟩
    · rw [if_neg (by omega)]
      have hp := h.p j j0 j1
      exact ⟨fun z => ⟨fun q => (hp.1 z).1 q.1, (hp.1 z).2⟩, fun z => ⟨fun q => (hp.2 z).mp q.1, fun q => ⟨(hp.2 z).mpr q, hj⟩⟩⟩
/-- what is pending -/
theorem pend_own {c : Chp} {wr : List (Int × List Nat)} : srtI (c.own wr).later = c.pend := by
  unfold Own.later Chp.pend Chp.own
  dsimp only
  refine (srt_is ?_ ((srtI_sorted _).filter _)).symm
  refine ((srtI_perm _).filter _).trans ?_
  rw [List.filter_map]
  exact List.Perm.refl _
theorem fault_due {n : Nat} {c : Chp} {wr : List (Int × List Nat)} {a w p : PyData} (h : Sim n c wr) (ha : (toI a).natAbs ≤ 10) : (c.own wr).fdue a w p = outDue (c.fault a w p).1 := by
  have e : (intB 1 1000000000 a && (wordB w && cellsB 1 256 p)) = faultB (.tuple [a, w, p]) := by
    show _ = (oneB a && (wordB w && cellsB 1 256 p))
    congr 1
    cases a with
    | int i =>
      have : i.natAbs ≤ 10 := ha
      show (decide (1 ≤ i) && decide (i ≤ 1000000000)) = decide (1 ≤ i)
      rw [decide_eq_true (show i ≤ 1000000000 by omega), Bool.and_true]
    | _ => rfl
  unfold Own.fdue Chp.fault
  rw [e, pend_own]
  by_cases hf : faultB (.tuple [a, w, p]) = false
  · rw [if_pos hf, if_pos hf]; rfl
  · rw [if_neg hf, if_neg hf]
    cases c.pend <;> rfl
end W9
namespace W9
open PySem PySem.Spec PyProof.Rows L2
theorem pend_nil {c : Chp} (h : c.pend = []) : ∀ q ∈ c.fs, q.1 ≤ c.done := fun q hq => by
  have : q.1 ∉ c.pend := by rw [h]; exact List.not_mem_nil
  unfold Chp.pend at this
  rw [List.mem_filter, decide_eq_true_eq] at this
  have hm : q.1 ∈ srtI (c.fs.map (·.1)) := mem_srt.mpr (List.mem_map.mpr ⟨q, hq, rfl⟩)
  exact Int.not_lt.mp fun z => this ⟨hm, z⟩
/-- a further fault is let -/
theorem sim_fault {n : Nat} {c : Chp} {wr : List (Int × List Nat)} {a w p : PyData} (h : Sim n c wr) (hn : n ≤ 50) (hf : faultB (.tuple [a, w, p]) = true) (hp : c.pend = []) (h10 : (toI a).natAbs ≤ 10) :
    ∃ (k : Int) (u v : List Nat), a = .int k ∧ w = tx u ∧ p = tx v ∧ Sim (n + 1) { c with fs := c.fs ++ [(c.done + k, u, v)] } wr := by
  obtain ⟨k, x, y, e, k1, hw, hc⟩ := faultB_three hf
  cases e
  obtain ⟨v, ev, v1, v2, vh⟩ := cellsB_of hc
  have hk := pend_nil hp
  refine ⟨k, x.cps.toList, v, rfl, congrArg PyData.str (str_eta x), ev, ?_⟩
  have hq : ∀ q ∈ c.fs ++ [(c.done + k, x.cps.toList, v)], (q.2.1 = cutL ∨ q.2.1 = badL) ∧ HexL q.2.2 ∧ q.2.2 ≠ [] ∧ q.2.2.length ≤ 256 := fun q hq => by
    rcases List.mem_append.mp hq with z | z
    · exact h.w.fk q z
    · rw [List.mem_singleton.mp z]
      refine ⟨?_, vh, fun z => ?_, by show v.length ≤ 256; omega⟩
      · rcases List.mem_cons.mp hw with z | z
        · exact .inl z
        · exact .inr (List.mem_singleton.mp z)
      · have z : v = [] := z
        rw [z] at v1
        exact absurd v1 (by decide)
  have hnd : ((c.fs ++ [(c.done + k, x.cps.toList, v)]).map (·.1)).Nodup := by
    rw [List.map_append]
    refine List.nodup_append.mpr ⟨h.w.fn, by simp, fun a ha b hb e => ?_⟩
    obtain ⟨q, hq, rfl⟩ := List.mem_map.mp ha
    have := hk q hq
    rw [List.map_cons, List.map_nil] at hb
    have hb := List.mem_singleton.mp hb
    have hb : b = c.done + k := hb
    omega
  have u := h.up
  have hlf := h.lf
  refine ⟨⟨h.w.b, h.w.cl, h.w.ce, h.w.wl, h.w.bd, h.w.wr, ?_, hq, hnd⟩, h.g, h.p, h.k, u.lw, u.lb, u.lr, ?_, u.ld, u.lc, u.lx, fun q hq => ?_⟩
  · show (c.fs ++ [(c.done + k, x.cps.toList, v)]).length ≤ 60
    rw [List.length_append]
    show c.fs.length + 1 ≤ 60
    omega
  · show (c.fs ++ [(c.done + k, x.cps.toList, v)]).length ≤ n + 1 + 1
    rw [List.length_append]
    show c.fs.length + 1 ≤ n + 1 + 1
    omega
  · rcases List.mem_append.mp hq with z | z
    · exact u.lk q z
    · rw [List.mem_singleton.mp z]
      have : k.natAbs ≤ 10 := h10
      have hd := h.ld
      show 0 ≤ c.done + k ∧ c.done + k ≤ ((n + 1 : Nat) : Int) + 10
      push_cast
      omega
theorem Sim.wfo {n : Nat} {c : Chp} {wr : List (Int × List Nat)} (h : Sim n c wr) (hn : n ≤ 60) : K15.WfO (c.own wr) := ⟨h.w.b, h.w.cl, h.w.ce, h.w.wl, by
  show (srtI c.bad).length ≤ 1000
  rw [(srtI_perm c.bad).length_eq]
  have := h.lb.1
  omega, by have := h.lw; show wr.length ≤ 100000; omega, h.k, ⟨h.w.fl, h.w.fk, h.w.fn⟩⟩
theorem Sim.rep_due {n : Nat} {c : Chp} {wr : List (Int × List Nat)} {a w p : PyData} (h : Sim n c wr) (hn : n ≤ 60) (hl : [a, w, p].all lfB = true) : ∀ e d, outDue (c.fault a w p).1 = some (e, d) → Rep d := fun e d z => by
  unfold Chp.fault at z
  split at z
  · cases z
    exact rep_tp hl (by show 3 ≤ 1000; decide)
  · split at z
    · rename_i i r hp
      cases z
      have hi : i ∈ c.pend := by rw [hp]; exact List.mem_cons_self
      unfold Chp.pend at hi
      obtain ⟨q, hq, rfl⟩ := List.mem_map.mp (mem_srt.mp (List.mem_filter.mp hi).1)
      have := h.lk q hq
      exact rep_lf (decide_eq_true (show q.1.natAbs < 10 ^ 11 by omega))
    · cases z
/-- what is_told needs -/
theorem Sim.told {n : Nat} {c : Chp} {wr : List (Int × List Nat)} (h : Sim n c wr) (hn : n ≤ 60) : c.bad.length < 64 ∧ (c.wear.map PyData.int).all lfB = true ∧ ((srtI c.bad).map PyData.int).all lfB = true ∧ [PyData.int c.done, .int c.cuts, .bool c.on].all lfB = true := by
  have small : ∀ i : Int, 0 ≤ i → i ≤ 1000 → lfB (.int i) = true := fun i a b => decide_eq_true (show i.natAbs < 10 ^ 11 by omega)
  have h1 := h.lb
  have h2 := h.ld
  have h3 := h.lc
  refine ⟨by omega, ?_, ?_, ?_⟩
  · rw [List.all_eq_true]
    intro d hd
    obtain ⟨x, hx, rfl⟩ := List.mem_map.mp hd
    have := h.lx x hx
    exact small x this.1 (by omega)
  · rw [List.all_eq_true]
    intro d hd
    obtain ⟨x, hx, rfl⟩ := List.mem_map.mp hd
    have := h1.2 x (mem_srt.mp hx)
    exact small x this.1 (by omega)
  · show (lfB (.int c.done) && (lfB (.int c.cuts) && (lfB (.bool c.on) && true))) = true
    rw [small _ h2.1 (by omega), small _ h3.1 (by omega)]
    rfl
end W9
namespace W9
open PySem PySem.Spec PyProof.Rows L2
/-- the first chip's faults -/
def fs3 (us : List Nat) : PyData := .tuple [.tuple [.int 3, tx cutL, tx us]]
theorem fs3_ok {us : List Nat} (h : HexL us) (hl : 0 < us.length ∧ us.length ≤ 20) : faultsB (fs3 us) = true := by
  have e : cellsB 1 256 (tx us) = true := by
    rw [cellsB_S, Bool.and_eq_true, Bool.and_eq_true, decide_eq_true_eq, decide_eq_true_eq, List.all_eq_true]
    exact ⟨⟨by omega, by omega⟩, fun c hc => decide_eq_true (h c hc)⟩
  show (([PyData.tuple [.int 3, tx cutL, tx us]].all faultB) && ascI [3]) = true
  have : faultB (.tuple [.int 3, tx cutL, tx us]) = true := by
    show (oneB (.int 3) && (wordB (tx cutL) && cellsB 1 256 (tx us))) = true
    rw [e]
    decide +kernel
  show ((faultB (.tuple [.int 3, tx cutL, tx us]) && true) && ascI [3]) = true
  rw [this]
  rfl
theorem fs3_fl {us : List Nat} : flL (fs3 us) = [(3, cutL, us)] := by
  unfold fs3 flL
  simp
theorem own_new {us : List Nat} : newO 4 4 (fs3 us) = (newC 4 4 (fs3 us)).own [] := rfl
theorem new_cell {us : List Nat} {i : Int} (h : 0 ≤ i ∧ i < 16) : (newC 4 4 (fs3 us)).cells.getD i.toNat [] = emptyL := by
  show (List.replicate 16 emptyL).getD i.toNat [] = emptyL
  rw [List.getD_eq_getElem?_getD, List.getElem?_replicate, if_pos (by omega)]
  rfl
theorem sim_new {us : List Nat} (h : HexL us) (hl : 0 < us.length ∧ us.length ≤ 20) : Sim 0 (newC 4 4 (fs3 us)) [] := by
  have e : (newC 4 4 (fs3 us)).fs = [(3, cutL, us)] := fs3_fl
  refine ⟨⟨⟨by show (4 : Int) ≤ 4; decide, by show (4 : Int) ≤ 64; decide, by show (4 : Int) ≤ 4; decide, by show (4 : Int) ≤ 16; decide⟩, rfl, fun t ht => ?_, rfl, by show 0 ≤ 1000; decide, by show 0 ≤ 100000; decide, ?_, ?_, ?_⟩, ⟨rfl, rfl⟩, fun i i0 i1 => ⟨fun _ => ⟨List.not_mem_nil, .inl rfl⟩, fun z => absurd (new_cell ⟨i0, i1⟩) z⟩, List.nodup_nil, Nat.le_refl _, ⟨Nat.le_refl _, fun b hb => absurd hb List.not_mem_nil⟩, Nat.le_refl _, ?_, ⟨Int.le_refl _, Int.le_refl _⟩, ⟨Int.le_refl _, Int.le_refl _⟩, fun x hx => ?_, ?_⟩
  · have ht : t ∈ List.replicate 16 emptyL := ht
    rw [(List.mem_replicate.mp ht).2]
    exact empty_hex
  · rw [e]; show 1 ≤ 60; decide
  · rw [e]
    intro q hq
    rw [List.mem_singleton.mp hq]
    exact ⟨.inl rfl, h, fun z => by have z : us = [] := z; rw [z] at hl; exact absurd hl.1 (by decide), by show us.length ≤ 256; omega⟩
  · rw [e]; simp
  · rw [e]; show 1 ≤ 0 + 1; decide
  · have hx : x ∈ List.replicate 4 (0 : Int) := hx
    rw [(List.mem_replicate.mp hx).2]
    decide
  · rw [e]
    intro q hq
    rw [List.mem_singleton.mp hq]
    show 0 ≤ (3 : Int) ∧ (3 : Int) ≤ _
    decide
/-- what is due of a write, in both books -/
theorem write_due {n : Nat} {c : Chp} {wr : List (Int × List Nat)} {place cells : PyData} (h : Sim n c wr) (hn : n ≤ 50) :
    (∃ ed, (c.own wr).wdue place cells = some ed ∧ c.write place cells = (.inl ed, c)) ∨
    ((c.own wr).wdue place cells = none ∧ ∃ (i : Int) (t : List Nat), place = .int i ∧ cells = tx t ∧ (0 ≤ i ∧ i < 16) ∧ (HexL t ∧ t.length = 256) ∧
      ∃ wr' told, (c.own wr).written i t = ((c.write place cells).2.own wr', told) ∧ ToldIs told (c.write place cells).1 ∧ Sim (n + 1) (c.write place cells).2 wr') := by
  have e15 : c.bl * c.pg - 1 = 15 := by rw [h.g.1, h.g.2]; rfl
  unfold Own.wdue Chp.write
  rw [e15]
  by_cases h1 : intB 0 15 place = false
  · exact .inl ⟨_, if_pos h1, if_pos h1⟩
  · rw [if_neg h1, if_neg h1]
    by_cases h2 : cellsB 256 256 cells = false
    · exact .inl ⟨_, if_pos h2, if_pos h2⟩
    · rw [if_neg h2, if_neg h2]
      have h1 : intB 0 15 place = true := by simpa using h1
      have h2 : cellsB 256 256 cells = true := by simpa using h2
      obtain ⟨i, rfl, i0, i1⟩ := intB_of h1
      obtain ⟨t, rfl, t1, t2, th⟩ := cellsB_of h2
      rw [strL_tx]
      by_cases h3 : c.cells.getD i.toNat [] = emptyL
      · rw [if_neg (show ¬ (c.own wr).cells.getD (toI (.int i)).toNat [] ≠ emptyL from fun z => z h3), if_neg (show ¬ c.cells.getD (toI (.int i)).toNat [] ≠ emptyL from fun z => z h3)]
        by_cases ho : c.on = true
        · rw [if_pos (show (c.own wr).on = true from ho), if_neg (show ¬ c.on = false by rw [ho]; exact fun z => nomatch z)]
          exact .inr ⟨rfl, i, t, rfl, rfl, ⟨i0, by omega⟩, ⟨th, by omega⟩, sim_write h hn ⟨i0, by omega⟩ h3 ⟨th, by omega⟩⟩
        · have ho : c.on = false := by simpa using ho
          rw [if_neg (show ¬ (c.own wr).on = true from fun z => by have z : c.on = true := z; rw [ho] at z; cases z), if_pos ho]
          exact .inl ⟨_, rfl, rfl⟩
      · rw [if_pos (show (c.own wr).cells.getD (toI (.int i)).toNat [] ≠ emptyL from h3), if_pos (show c.cells.getD (toI (.int i)).toNat [] ≠ emptyL from h3)]
        exact .inl ⟨_, rfl, rfl⟩
end W9
namespace W9
open PySem PySem.Spec PyProof.Rows L2
def Own.edue (o : Own) (block : PyData) : Due := if intB 0 3 block = false then some (.block, block) else if o.on = true then none else some (.cut, .none)
def Own.adue (o : Own) (place cell sign : PyData) : Due := if intB 0 15 place = false then some (.place, place) else if o.canFade (toI place) cell sign = true then none else some (.fade, .tuple [cell, sign])
def readDue (place : PyData) : Due := if intB 0 15 place = false then some (.place, place) else none
theorem erase_due {n : Nat} {c : Chp} {wr : List (Int × List Nat)} {block : PyData} (h : Sim n c wr) (hn : n ≤ 50) :
    (∃ ed, (c.own wr).edue block = some ed ∧ c.erase block = (.inl ed, c)) ∨
    ((c.own wr).edue block = none ∧ ∃ b : Int, block = .int b ∧ (0 ≤ b ∧ b < 4) ∧
      ∃ wr' told, (c.own wr).erased b = ((c.erase block).2.own wr', told) ∧ ToldIs told (c.erase block).1 ∧ Sim (n + 1) (c.erase block).2 wr') := by
  have e3 : c.bl - 1 = 3 := by rw [h.g.1]; rfl
  unfold Own.edue Chp.erase
  rw [e3]
  by_cases h1 : intB 0 3 block = false
  · exact .inl ⟨_, if_pos h1, if_pos h1⟩
  · rw [if_neg h1, if_neg h1]
    have h1 : intB 0 3 block = true := by simpa using h1
    obtain ⟨b, rfl, b0, b1⟩ := intB_of h1
    by_cases ho : c.on = true
    · rw [if_pos (show (c.own wr).on = true from ho), if_neg (show ¬ c.on = false by rw [ho]; exact fun z => nomatch z)]
      exact .inr ⟨rfl, b, rfl, ⟨b0, by omega⟩, sim_erase h hn ⟨b0, by omega⟩⟩
    · have ho : c.on = false := by simpa using ho
      rw [if_neg (show ¬ (c.own wr).on = true from fun z => by have z : c.on = true := z; rw [ho] at z; cases z), if_pos ho]
      exact .inl ⟨_, rfl, rfl⟩
theorem fade_due {n : Nat} {c : Chp} {wr : List (Int × List Nat)} {place cell sign : PyData} (h : Sim n c wr) :
    (∃ ed, (c.own wr).adue place cell sign = some ed ∧ c.fade place cell sign = (.inl ed, c)) ∨
    ((c.own wr).adue place cell sign = none ∧ ∃ (i k : Int) (u : List Nat), place = .int i ∧ (0 ≤ i ∧ i < 16) ∧ cell = .int k ∧ sign = tx u ∧ (0 ≤ k ∧ k ≤ 255) ∧ u.length = 1 ∧ (c.own wr).canFade i cell sign = true ∧
      (c.fade place cell sign).1 = .inr .none ∧ (c.own wr).faded i cell sign = (c.fade place cell sign).2.own wr ∧ Sim n (c.fade place cell sign).2 wr) := by
  have e15 : c.bl * c.pg - 1 = 15 := by rw [h.g.1, h.g.2]; rfl
  unfold Own.adue Chp.fade
  rw [e15]
  by_cases h1 : intB 0 15 place = false
  · exact .inl ⟨_, if_pos h1, if_pos h1⟩
  · rw [if_neg h1, if_neg h1]
    have h1 : intB 0 15 place = true := by simpa using h1
    obtain ⟨i, rfl, i0, i1⟩ := intB_of h1
    have hi : 0 ≤ i ∧ i < 16 := ⟨i0, by omega⟩
    have hc := can_fade_own (cell := cell) (sign := sign) h hi
    by_cases hf : c.canFade i cell sign = true
    · obtain ⟨k, u, rfl, rfl, hk, hu, hs⟩ := sim_fade h hi hf
      rw [if_pos (show (c.own wr).canFade (toI (.int i)) (.int k) (tx u) = true from hc.trans hf), if_neg (show ¬ c.canFade (toI (.int i)) (.int k) (tx u) = false from fun z => by have z : c.canFade i (.int k) (tx u) = false := z; rw [hf] at z; cases z), strL_tx]
      refine .inr ⟨rfl, i, k, u, rfl, hi, rfl, rfl, hk, hu, hc.trans hf, rfl, ?_, hs⟩
      unfold Own.faded
      rw [strL_tx]
      rfl
    · have hf2 : c.canFade i cell sign = false := by simpa using hf
      rw [if_neg (show ¬ (c.own wr).canFade (toI (.int i)) cell sign = true from fun z => hf (hc.symm.trans z)), if_pos (show c.canFade (toI (.int i)) cell sign = false from hf2)]
      exact .inl ⟨_, rfl, rfl⟩
theorem read_due {n : Nat} {c : Chp} {wr : List (Int × List Nat)} {place : PyData} (h : Sim n c wr) : (∃ ed, readDue place = some ed ∧ c.read place = (.inl ed, c)) ∨ (readDue place = none ∧ ∃ d, c.read place = (.inr d, c)) := by
  have e15 : c.bl * c.pg - 1 = 15 := by rw [h.g.1, h.g.2]; rfl
  unfold readDue Chp.read
  rw [e15]
  by_cases h1 : intB 0 15 place = false
  · exact .inl ⟨_, if_pos h1, if_pos h1⟩
  · rw [if_neg h1, if_neg h1]
    exact .inr ⟨rfl, _, rfl⟩
end W9
namespace W9
open PySem PySem.Spec PyProof.Rows L2 PySem.W KOpn
def upC (c : Nat) : Nat := if 97 ≤ c ∧ c ≤ 122 then c - 32 else c
theorem upper_list : ∀ {l : List Nat}, (∀ c ∈ l, c < 128) → Txt.upper ⟨l.toArray⟩ = ⟨(l.map upC).toArray⟩
  | [], _ => by decide +kernel
  | c :: l, h => by
    have e : (⟨(c :: l).toArray⟩ : Str) = ⟨#[c]⟩ ++ ⟨l.toArray⟩ := PySem.Str.ext' (by rw [PySem.Str.cps_append]; simp)
    rw [e, upper_app, upper_one (h c List.mem_cons_self), upper_list fun d hd => h d (List.mem_cons_of_mem _ hd)]
    exact PySem.Str.ext' (by rw [PySem.Str.cps_append]; simp [upC])
theorem upC_lt {c : Nat} (h : c < 128) : upC c < 128 := by unfold upC; split <;> omega
end W9
namespace W9
open PySem PySem.Spec PyProof.Rows L2
/-- the first write -/
theorem first_write {us pg : List Nat} (h : HexL us) (hl : 0 < us.length ∧ us.length ≤ 20) (hp : HexL pg ∧ pg.length = 256) :
    ∃ wr' told d, (newO 4 4 (fs3 us)).written 0 pg = ((((newC 4 4 (fs3 us)).write (.int 0) (tx pg)).2).own wr', told) ∧ ((newC 4 4 (fs3 us)).write (.int 0) (tx pg)).1 = .inr d ∧ Sim 1 ((newC 4 4 (fs3 us)).write (.int 0) (tx pg)).2 wr' := by
  have hs := sim_new h hl
  have hc := new_cell (us := us) (i := 0) (by decide)
  have e1 : cellsB 256 256 (tx pg) = true := by
    rw [cellsB_S, Bool.and_eq_true, Bool.and_eq_true, decide_eq_true_eq, decide_eq_true_eq, List.all_eq_true]
    exact ⟨⟨by omega, by omega⟩, fun c hc => decide_eq_true (hp.1 c hc)⟩
  have hw : (newC 4 4 (fs3 us)).word = none := by
    unfold Chp.word
    rw [show (newC 4 4 (fs3 us)).fs = [(3, cutL, us)] from fs3_fl, show (newC 4 4 (fs3 us)).done = 0 from rfl]
    rfl
  have ew : (newC 4 4 (fs3 us)).write (.int 0) (tx pg) = ((newC 4 4 (fs3 us)).begun.wrote (newC 4 4 (fs3 us)).word 0 pg).endD (0 / (newC 4 4 (fs3 us)).pg) (newC 4 4 (fs3 us)).word := by
    unfold Chp.write
    rw [if_neg (show ¬ intB 0 ((newC 4 4 (fs3 us)).bl * (newC 4 4 (fs3 us)).pg - 1) (.int 0) = false from (by decide : ¬ intB 0 15 (.int 0) = false)), e1, if_neg (fun z => nomatch z), if_neg (show ¬ (newC 4 4 (fs3 us)).cells.getD (toI (.int 0)).toNat [] ≠ emptyL from fun z => z hc), if_neg (show ¬ (newC 4 4 (fs3 us)).on = false from fun z => nomatch z), strL_tx]
    rfl
  obtain ⟨wr', told, a1, a2, a3⟩ := sim_write hs (by decide) (i := 0) (by decide) hc hp
  rw [ew]
  rw [own_new]
  refine ⟨wr', told, ?_, a1, ?_, a3⟩
  · exact .bool (!decide ((0 : Int) / (newC 4 4 (fs3 us)).pg ∈ ((newC 4 4 (fs3 us)).begun.wrote (newC 4 4 (fs3 us)).word 0 pg).bad))
  · rw [hw]
    rfl
end W9
namespace W9
namespace K15
open PySem PySem.Spec PyProof.Rows L2 LamX
section
variable {P : Program} {w : World} {K : PySem.W.Frag} {mg : Str → Option Value} {base : Heap}
/-- a draw from what is written in the text -/
theorem wk_of (T : Tx P K mg) {N : List Str} {q : Str} {sc : Scope} {f : Addr} {cd : Value} {A : Around} {outer : List Env} {s : Shared} {H : Hp} {E : XK} {ds : DE} {m : MS} {es : List Expr} {lp pos p1 p2 : Pos} {pp : Addr} {a b c : Int} {Pp : SD → MS → Prop}
    (L : List PyData) (h : conL (fun _ => none) es = some L) (hl : 0 < L.length ∧ L.length < 1000) (hr : Rm 6 (bX P w K mg base N q sc f cd A outer s H E).A) (hv : EE (bX P w K mg base N q sc f cd A outer s H E) (.Name "pot" p2) ds (.raw (.ref pp)))
    (ha : 0 ≤ a) (hb : PB b) (hc : 0 ≤ c ∧ c ≤ 100000) (hpf : pp ∉ ad m) (k : ∀ (d : PyData) (a' c' : Int), d ∈ L → 0 ≤ a' → (0 ≤ c' ∧ c' ≤ c + 1) → Pp (.py d) (Pt pp a' b c' :: m)) (hg : Gl (bX P w K mg base N q sc f cd A outer s H E) "_law_of" := by rfl) :
    WE (bX P w K mg base N q sc f cd A outer s H E) (.Call (.Name "_law_of" p1) [.Name "pot" p2, .List es lp] [] pos) ds (Pt pp a b c :: m) Pp := by
  have hL : EE (bX P w K mg base N q sc f cd A outer s H E) (.List es lp) ds (Ls L) := ee_lst (conl_ok (lk := fun _ => none) (fun _ _ _ z => by cases z) es L h) (by omega)
  refine wg_call (X := bX P w K mg base N q sc f cd A outer s H E) (ok__law_of T) (hr.mono (by decide)) T.m__law_of T.F__law_of.kp T.b__law_of ?_ hg (by decide) star_name rfl
  have h2 : EA (bX P w K mg base N q sc f cd A outer s H E) [.Name "pot" p2, .List es lp] ds [.raw (.ref pp), Ls L] := ea_cons hv (ea_cons hL ea_nil star_lst) star_name
  exact h2.to ⟨[], _, rfl, .mk ha hb hc ⟨hl.1, by omega⟩ hpf k⟩
/-- a draw from a list at hand -/
theorem wk_ofV (T : Tx P K mg) {N : List Str} {q : Str} {sc : Scope} {f : Addr} {cd : Value} {A : Around} {outer : List Env} {s : Shared} {H : Hp} {E : XK} {ds : DE} {m : MS} {x : Str} {pos p1 p2 p3 : Pos} {pp : Addr} {a b c : Int} {Pp : SD → MS → Prop}
    (L : List PyData) (hx : EE (bX P w K mg base N q sc f cd A outer s H E) (.Name x p3) ds (Ls L)) (hl : 0 < L.length ∧ L.length < 1000) (hr : Rm 6 (bX P w K mg base N q sc f cd A outer s H E).A) (hv : EE (bX P w K mg base N q sc f cd A outer s H E) (.Name "pot" p2) ds (.raw (.ref pp)))
    (ha : 0 ≤ a) (hb : PB b) (hc : 0 ≤ c ∧ c ≤ 100000) (hpf : pp ∉ ad m) (k : ∀ (d : PyData) (a' c' : Int), d ∈ L → 0 ≤ a' → (0 ≤ c' ∧ c' ≤ c + 1) → Pp (.py d) (Pt pp a' b c' :: m)) (hg : Gl (bX P w K mg base N q sc f cd A outer s H E) "_law_of" := by rfl) :
    WE (bX P w K mg base N q sc f cd A outer s H E) (.Call (.Name "_law_of" p1) [.Name "pot" p2, .Name x p3] [] pos) ds (Pt pp a b c :: m) Pp := by
  refine wg_call (X := bX P w K mg base N q sc f cd A outer s H E) (ok__law_of T) (hr.mono (by decide)) T.m__law_of T.F__law_of.kp T.b__law_of ?_ hg (by decide) star_name rfl
  have h2 : EA (bX P w K mg base N q sc f cd A outer s H E) [.Name "pot" p2, .Name x p3] ds [.raw (.ref pp), Ls L] := ea_cons hv (ea_cons hx ea_nil star_name) star_name
  exact h2.to ⟨[], _, rfl, .mk ha hb hc ⟨hl.1, by omega⟩ hpf k⟩
/-- f(x) of a def that is a function of data -/
theorem wk_call1 {R : List SD → SD → Prop} {N : List Str} {q : Str} {sc : Scope} {f g : Addr} {fd : FuncData} {ps : List Str} {k : Nat} {cd : Value} {A : Around} {outer : List Env} {s : Shared} {H : Hp} {E : XK} {ds : DE} {x fn : Str} {pos p1 p2 : Pos} {d1 d : SD}
    (FO : FnG P w K mg base CX0 k g fd ps (SpD K (pureF R))) (hr : Rm k (bX P w K mg base N q sc f cd A outer s H E).A) (hm : mg fn = some (.ref g)) (hk : PySem.W.keepIn K (.ref g) = true) (hb : Binds K fd ps []) (h1 : EE (bX P w K mg base N q sc f cd A outer s H E) (.Name x p2) ds d1) (hR : R [d1] d)
    (hg : Gl (bX P w K mg base N q sc f cd A outer s H E) fn := by rfl) (hdb : (fn == ("__debug__" : Str)) = false := by decide) : EE (bX P w K mg base N q sc f cd A outer s H E) (.Call (.Name fn p1) [.Name x p2] [] pos) ds d :=
  eg_call (X := bX P w K mg base N q sc f cd A outer s H E) FO hr hm hk hb (ea_cons h1 ea_nil star_name) hR hg hdb star_name rfl
end
end K15
end W9
namespace W9
open PySem PySem.Spec PyProof.Rows L2 LamX
theorem wa_app {X : Cx} {ds : DE} {m : MS} {lk : Str → Option PyData} (hk : ∀ x d pos, lk x = some d → EE X (.Name x pos) ds (.py d)) : ∀ (es : List Expr) (l : List PyData) {es2 : List Expr} {P : List SD → MS → Prop}, conL lk es = some l → WA X es2 ds m (fun xs m' => P (l.map .py ++ xs) m') → WA X (es ++ es2) ds m P
  | [], l, es2, P, h, h2 => by
    unfold conL at h
    cases h
    exact h2
  | e :: es, l, es2, P, h, h2 => by
    unfold conL at h
    cases e1 : conD lk e with
    | none => rw [e1] at h; cases h
    | some d =>
      cases e2 : conL lk es with
      | none => rw [e1, e2] at h; cases h
      | some l3 =>
        rw [e1, e2] at h
        cases h
        exact wa_cons ((con_ok hk e d e1).to (wa_app hk es l3 (P := fun xs m' => P (.py d :: xs) m') e2 h2)) (star_con e1)
namespace K15
section
variable {P : Program} {w : World} {K : PySem.W.Frag} {mg : Str → Option Value} {base : Heap}
/-- a draw from constants and one more, that is drawn too -/
theorem wk_ofX (T : Tx P K mg) {N : List Str} {q : Str} {sc : Scope} {f : Addr} {cd : Value} {A : Around} {outer : List Env} {s : Shared} {H : Hp} {E : XK} {ds : DE} {m : MS} {x1 x2 x3 x4 x5 x6 x7 x8 x9 x10 x11 x12 e : Expr} {lp pos p1 p2 : Pos} {pp : Addr} {a b c : Int} {Pp : SD → MS → Prop}
    (L : List PyData) (h : conL (fun _ => none) [x1, x2, x3, x4, x5, x6, x7, x8, x9, x10, x11, x12] = some L) (hl : L.length < 1000) (hr : Rm 6 (bX P w K mg base N q sc f cd A outer s H E).A) (hv : EE (bX P w K mg base N q sc f cd A outer s H E) (.Name "pot" p2) ds (.raw (.ref pp)))
    (hb : PB b) (hpf : pp ∉ ad m) (hs : starEach [e] (bX P w K mg base N q sc f cd A outer s H E).env = (false, eval e (bX P w K mg base N q sc f cd A outer s H E).env) :: starEach [] (bX P w K mg base N q sc f cd A outer s H E).env)
    (he : WE (bX P w K mg base N q sc f cd A outer s H E) e ds (Pt pp a b c :: m) fun d m1 => ∃ (d1 : PyData) (a1 c1 : Int), d = .py d1 ∧ m1 = Pt pp a1 b c1 :: m ∧ 0 ≤ a1 ∧ (0 ≤ c1 ∧ c1 ≤ 100000) ∧ ∀ (d : PyData) (a' c' : Int), d ∈ L ++ [d1] → 0 ≤ a' → (0 ≤ c' ∧ c' ≤ c1 + 1) → Pp (.py d) (Pt pp a' b c' :: m))
    (hg : Gl (bX P w K mg base N q sc f cd A outer s H E) "_law_of" := by rfl) :
    WE (bX P w K mg base N q sc f cd A outer s H E) (.Call (.Name "_law_of" p1) [.Name "pot" p2, .List [x1, x2, x3, x4, x5, x6, x7, x8, x9, x10, x11, x12, e] lp] [] pos) ds (Pt pp a b c :: m) Pp := by
  refine wg_call (X := bX P w K mg base N q sc f cd A outer s H E) (ok__law_of T) (hr.mono (by decide)) T.m__law_of T.F__law_of.kp T.b__law_of ?_ hg (by decide) star_name rfl
  refine wa_cons (hv.to (wa_cons (we_lst ?_) star_lst)) star_name
  refine wa_app (lk := fun _ => none) (fun _ _ _ z => by cases z) [x1, x2, x3, x4, x5, x6, x7, x8, x9, x10, x11, x12] L h (wa_cons (he.mono ?_) hs)
  rintro _ _ ⟨d1, a1, c1, rfl, rfl, h1, h2, k⟩
  exact wa_nil ⟨L ++ [d1], by rw [List.map_append]; rfl, by rw [List.length_append]; show L.length + 1 ≤ 1000000; omega, wa_nil ⟨[], _, rfl, .mk h1 hb h2 (by rw [List.length_append]; show 0 < L.length + 1 ∧ L.length + 1 < 1000000; omega) hpf k⟩⟩
/-- a draw from a list that is at hand as an expression -/
theorem wk_ofL (T : Tx P K mg) {N : List Str} {q : Str} {sc : Scope} {f : Addr} {cd : Value} {A : Around} {outer : List Env} {s : Shared} {H : Hp} {E : XK} {ds : DE} {m : MS} {es : List Expr} {lp pos p1 p2 : Pos} {pp : Addr} {a b c : Int} {Pp : SD → MS → Prop}
    (L : List PyData) (hL : EAp (bX P w K mg base N q sc f cd A outer s H E) es ds L) (hl : 0 < L.length ∧ L.length < 1000) (hr : Rm 6 (bX P w K mg base N q sc f cd A outer s H E).A) (hv : EE (bX P w K mg base N q sc f cd A outer s H E) (.Name "pot" p2) ds (.raw (.ref pp)))
    (ha : 0 ≤ a) (hb : PB b) (hc : 0 ≤ c ∧ c ≤ 100000) (hpf : pp ∉ ad m) (k : ∀ (d : PyData) (a' c' : Int), d ∈ L → 0 ≤ a' → (0 ≤ c' ∧ c' ≤ c + 1) → Pp (.py d) (Pt pp a' b c' :: m)) (hg : Gl (bX P w K mg base N q sc f cd A outer s H E) "_law_of" := by rfl) :
    WE (bX P w K mg base N q sc f cd A outer s H E) (.Call (.Name "_law_of" p1) [.Name "pot" p2, .List es lp] [] pos) ds (Pt pp a b c :: m) Pp := by
  have hL : EE (bX P w K mg base N q sc f cd A outer s H E) (.List es lp) ds (Ls L) := ee_lst hL (by omega)
  refine wg_call (X := bX P w K mg base N q sc f cd A outer s H E) (ok__law_of T) (hr.mono (by decide)) T.m__law_of T.F__law_of.kp T.b__law_of ?_ hg (by decide) star_name rfl
  have h2 : EA (bX P w K mg base N q sc f cd A outer s H E) [.Name "pot" p2, .List es lp] ds [.raw (.ref pp), Ls L] := ea_cons hv (ea_cons hL ea_nil star_lst) star_name
  exact h2.to ⟨[], _, rfl, .mk ha hb hc ⟨hl.1, by omega⟩ hpf k⟩
end
end K15
end W9
namespace W9
namespace K15
open PySem PySem.Spec PyProof.Rows L2 LamX
local macro_rules | `(tactic| walk_at "sz") => `(tactic| first | assumption | omega | decide | (simp only [List.length_append, List.length_map, List.length_zipIdx, List.length_cons, List.length_nil, List.length_replicate, List.length_range, List.length_zip, List.length_take, List.length_drop]; omega) | (simp; omega) | (simp; done))
local macro_rules | `(tactic| walk_at "bd") => `(tactic| first | exact bd_add | exact bd_sub | exact bd_mul (by omega) | exact bd_mod (by omega) | exact bd_mod (by decide +kernel) | exact bd_pow (by omega) | exact bd_powX (by decide +kernel) | exact bd_div (by omega) | exact bd_addS (by walk_at "sz") | exact bd_mulS (by walk_at "sz") | exact bd_catL (by walk_at "sz"))
local macro_rules | `(tactic| walk_at "cd") => `(tactic| first | exact cd_lt | exact cd_le | exact cd_gt | exact cd_ge | exact cd_eq | exact cd_ne | exact cd_isN | exact cd_notN | exact cd_eqS | exact cd_neS | exact cd_ltS | exact cd_inS | exact cd_notinS | exact cd_inTs (Rm.mono (by assumption) (by decide)) (by assumption) (by assumption) | exact cd_notinTs | exact cd_eqT | exact cd_neT | exact cd_notinI (Rm.mono (by assumption) (by decide)))
local macro_rules | `(tactic| walk_at "ca") => `(tactic| first | exact ca_isiD (by simp) | exact ca_lenS (by walk_at "sz") | exact ca_lenL | exact ca_lenT | exact ca_allm rfl | exact ca_int | exact ca_intB | exact ca_abs | exact ca_max2 rfl | exact ca_min2 rfl | exact ca_sum rfl | exact ca_tupL | exact ca_listL | exact ca_listT | exact ca_maxS rfl | exact ca_listS rfl (by walk_at "sz"))
local macro_rules | `(tactic| walk_at "sl") => `(tactic| first | exact sl_S (by walk_at "sz") | exact sl_L | exact sl_T)
local macro_rules | `(tactic| walk_at "rg") => `(tactic| omega)
local macro_rules | `(tactic| walk_at "asc") => `(tactic| first | assumption | exact HexL.asc (by assumption))
local macro_rules | `(tactic| walk_at "sd") => `(tactic| first | exact sd_tup (by rfl) | exact sd_lst (by rfl) | exact sd_tup (at_nn (by decide) (by rfl)) | exact sd_lst (at_nn (by decide) (by rfl)))
local macro_rules | `(tactic| walk_at "call _law_is_int") => `(tactic| exact .mk)
local macro_rules | `(tactic| walk_at "call _law_chip_are_faults") => `(tactic| exact .mk (by assumption))
section
variable {P : Program} {w : World} {K : PySem.W.Frag} {mg : Str → Option Value} {base : Heap}
inductive F__law_are_sizes_right (T : Tx P K mg) : FT
  | mk {p : Addr} {a b c : Int} {m : MS} {Pp : SD → MS → Prop} (ha : 0 ≤ a) (hb : PB b) (hc : 0 ≤ c ∧ c ≤ 80000) (hpf : p ∉ ad m) (hm : (T.t__law_are_sizes_right, OV.tab "_law_are_sizes_right.<locals>.<lambda>") ∈ m)
      (h : ∀ a' c' : Int, 0 ≤ a' → (0 ≤ c' ∧ c' ≤ c + 18) → Pp (B true) (Pt p a' b c' :: m)) : F__law_are_sizes_right T [.raw (.ref p)] (Pt p a b c :: m) Pp
theorem ok__law_are_sizes_right (T : Tx P K mg) (tb__law_are_sizes_right : LamX.TabB base mg T.q__law_are_sizes_right T.t__law_are_sizes_right) : FnG P w K mg base CX0 22 T.a__law_are_sizes_right T.d__law_are_sizes_right ["pot"] (SpD K (F__law_are_sizes_right T)) := by
  refine fnD_okA (W9.Fun.toA T.F__law_are_sizes_right) sc__law_are_sizes_right (fun xs m Pp h => by cases h <;> rfl) (fun cdv A outer s H E hcd rm xs m Pp hF => ?_)
  cases hF with | @mk p a b c m Pp ha hb hc hpf hm h =>
  have nd := sc__law_are_sizes_right.nd
  refine wss_cons (ws_for (js := [1]) (((ei_range1 ee_int (by walk_at "rg") T.m_range)).to ⟨fun i ds1 m1 => ∃ (y1 y2 y3 y4 y5 y6 y7 : Option SD) (a' c' : Int), 0 ≤ a' ∧ (0 ≤ c' ∧ c' ≤ c + 3 * (i : Int)) ∧ ds1 = [some (.raw (.ref p)), y1, y2, y3, y4, y5, y6, y7] ∧ m1 = Pt p a' b c' :: m, ⟨none, none, none, none, none, none, none, a, c, ha, ⟨hc.1, by omega⟩, rfl, rfl⟩, ?_, ?_⟩))
  · rintro i x ds1 m1 hx ⟨y1, y2, y3, y4, y5, y6, y7, a1, c1, ha1, hc1, rfl, rfl⟩
    obtain ⟨n, hn, rfl⟩ := map_get hx
    have hn6 : i < 6 := by
      have := (List.getElem?_eq_some_iff.mp hn).1
      rw [List.length_range] at this
      exact this
    refine wg_name ?_ nd
    refine wss_cons (ws_set (i := 2) nd (wk_of T blL (by kernel_rfl) ⟨by decide, by decide⟩ (rm.mono (by decide)) (ee_var (i := 0) rfl) ha1 hb ⟨hc1.1, by omega⟩ hpf fun bl a2 c2 hbl ha2 hc2 => ?_))
    refine wss_cons (ws_set (i := 3) nd (wk_of T pgL (by kernel_rfl) ⟨by decide, by decide⟩ (rm.mono (by decide)) (ee_var (i := 0) rfl) ha2 hb ⟨hc2.1, by omega⟩ hpf fun pg a3 c3 hpg ha3 hc3 => ?_))
    have hbl := bl_all bl hbl
    have hpg := pg_all pg hpg
    refine wss_cons (ws_setE (i := 4) (d := .py gdT) nd (ee_con gdT (by kernel_rfl)) ?_)
    refine wss_cons (ws_setE (i := 5) (d := Ls fsA) nd (ee_con1 "good" 4 gdT (.list fsA) (by kernel_rfl) (fun _ => ee_var (i := 4) rfl)) ?_)
    refine wss_cons (ws_setE (i := 5) (d := Ls (fsA ++ fsB)) nd (ee_bin (ee_var (i := 5) rfl) (ee_l5 (d := .tuple [.tuple [.int 3, tx cutL]]) (fsB.take 4) (by kernel_rfl) (by decide) (ee_tup1 (EE.is (d' := Tp [.int 3, tx cutL]) (ee_slice (ee_var (i := 4) rfl) eo_none (eo_some ee_int) (fun m => by walk_at "sl")) (by rfl)) star_sub) star_tup) (bd_catL (by decide))) ?_)
    refine wss_cons (ws_set (i := 5) nd (we_catO (la := fsA ++ fsB) (lb := fsC) (ee_var (i := 5) rfl) (ee_l4 (d := .tuple [.list [.int 3, tx cutL, tx [48, 102]]]) (fsC.take 3) (by kernel_rfl) (by decide) (ee_tup1 (EE.is (d' := Ls [.int 3, tx cutL, tx [48, 102]]) (ee_callTy (ea_cons (ee_var (i := 4) rfl) ea_nil star_name) (fun m => by walk_at "ca") T.m_list bo_list) (by rfl)) star_call) star_tup) (by decide) fun ps hps => ?_))
    refine wss_cons (ws_appH (d := fsX) hps (ee_var (i := 5) rfl) (ee_con fsX (by kernel_rfl)) (by decide) ?_ (hs := star_tup))
    refine wss_seal (i := 5) rfl ?_
    refine wss_cons (ws_set (i := 6) nd (wk_ofV T fsAll (ee_var (i := 5) rfl) ⟨by decide, by decide⟩ (rm.mono (by decide)) (ee_var (i := 0) rfl) ha3 hb ⟨hc3.1, by omega⟩ hpf fun fs a4 c4 hfs ha4 hc4 => ?_))
    obtain ⟨hfs, gfs⟩ := fs_all fs hfs
    refine wss_cons (ws_setE (i := 7) (d := .py (dueP (if faultsB fs = false then some (.faults, fs) else none))) nd (ee_if (k := faultsB fs) (et_val (wk_call1 (k := 6) (ok__law_chip_are_faults T) (rm.mono (by decide)) T.m__law_chip_are_faults T.F__law_chip_are_faults.kp T.b__law_chip_are_faults (ee_var (i := 6) rfl) (.mk gfs))) (fun hk => ?_) (fun hk => ?_)) ?_)
    · rw [if_neg (by rw [hk]; exact fun z => nomatch z)]; exact ee_non
    · rw [if_pos hk]; exact (ee_tup (eap_cons (ee_strS (l := [102, 97, 117, 108, 116, 115])) (eap_cons (ee_var (i := 6) rfl) eap_nil star_name) star_cst))
    refine wss_cons (ws_setE (i := 7) (d := .py (dueP (if intB 4 16 pg = false then some (.size, pg) else if faultsB fs = false then some (.faults, fs) else none))) nd (ee_if (k := intB 4 16 pg) (et_val (eg_call (ok__law_is_int T) (rm.mono (by decide)) T.m__law_is_int T.F__law_is_int.kp T.b__law_is_int (ea_cons (ee_var (i := 3) rfl) (ea_cons ee_int (ea_cons ee_int ea_nil star_cst) star_cst) star_name) (by walk_at "call _law_is_int"))) (fun hk => ?_) (fun hk => ?_)) ?_)
    · rw [if_neg (show ¬ intB 4 16 pg = false by rw [hk]; exact fun z => nomatch z)]; exact (ee_var (i := 7) rfl)
    · rw [if_pos hk]; exact (ee_tup (eap_cons (ee_strS (l := [115, 105, 122, 101])) (eap_cons (ee_var (i := 3) rfl) eap_nil star_name) star_cst))
    refine wss_cons (ws_setE (i := 7) (d := .py (dueP (szDue bl pg fs))) nd (ee_if (k := intB 4 64 bl) (et_val (eg_call (ok__law_is_int T) (rm.mono (by decide)) T.m__law_is_int T.F__law_is_int.kp T.b__law_is_int (ea_cons (ee_var (i := 2) rfl) (ea_cons ee_int (ea_cons ee_int ea_nil star_cst) star_cst) star_name) (by walk_at "call _law_is_int"))) (fun hk => ?_) (fun hk => ?_)) ?_)
    · unfold szDue; rw [if_neg (show ¬ intB 4 64 bl = false by rw [hk]; exact fun z => nomatch z)]; exact (ee_var (i := 7) rfl)
    · unfold szDue; rw [if_pos hk]; exact (ee_tup (eap_cons (ee_strS (l := [115, 105, 122, 101])) (eap_cons (ee_var (i := 2) rfl) eap_nil star_name) star_cst))
    have hrep : ∀ e d, szDue bl pg fs = some (e, d) → Rep d := fun e d z => by
      unfold szDue at z
      split at z
      · cases z; exact rep_by hbl
      · split at z
        · cases z; exact rep_by hpg
        · split at z
          · cases z; exact rep_by hfs
          · cases z
    refine wss_one (ws_if (wt_not (wt_val (WE.sub (WE.mono (P := fun d m2 => d = B true ∧ (Pt p a4 b c4 :: m).Sublist m2) (wk_raised T (k := 16) tb__law_are_sizes_right (hcd.symm.trans T.c__law_are_sizes_right) (List.mem_cons_of_mem _ hm) (lamS_by (by decide +kernel)) rfl (fun _ _ _ => rfl) (ee_var (i := 7) rfl) (rm.mono (by decide)) (by decide) hrep fun A' outer' s' H' E' f' c' hr' => ?_) ?_)))))
    · refine xe_make T.M_Chip (ok_Chip___init__ T) (hr'.mono (by decide)) T.m_Chip T.b_Chip___init__ (EA.to (ea_cons (ee_var (i := 2) rfl) (ea_cons (ee_var (i := 3) rfl) (ea_cons (ee_var (i := 6) rfl) ea_nil star_name) star_name) star_name) fun a dx h1 h2 h3 => ?_)
      have hsub : ∀ m2 : MS, (Pt p a4 b c4 :: m).Sublist ((Pt p a4 b c4 :: m) ++ m2) := fun m2 => List.sublist_append_left _ _
      refine .mk gfs (fun z => ?_) (fun z z2 => ?_) (fun z z2 z3 => ?_) fun z z2 z3 A _ => ⟨rfl, ?_, rfl, hsub _⟩
      · exact ⟨.size, bl, by unfold szDue; rw [if_pos z], rfl, rfl, rfl, hsub _⟩
      · exact ⟨.size, pg, by unfold szDue; rw [if_neg (show ¬ intB 4 64 bl = false by rw [z]; exact fun z => nomatch z), if_pos z2], rfl, rfl, rfl, hsub _⟩
      · exact ⟨.faults, fs, by unfold szDue; rw [if_neg (show ¬ intB 4 64 bl = false by rw [z]; exact fun z => nomatch z), if_neg (show ¬ intB 4 16 pg = false by rw [z2]; exact fun z => nomatch z), if_pos z3], rfl, rfl, rfl, hsub _⟩
      · unfold szDue; rw [if_neg (show ¬ intB 4 64 bl = false by rw [z]; exact fun z => nomatch z), if_neg (show ¬ intB 4 16 pg = false by rw [z2]; exact fun z => nomatch z), if_neg (show ¬ faultsB fs = false by rw [z3]; exact fun z => nomatch z)]
    · rintro _ m2 ⟨rfl, hs⟩
      exact ⟨_, hs, true, rfl, iteF (fun z => nomatch z) (wss_nil ⟨_, _, _, _, _, _, _, a4, c4, ha4, ⟨hc4.1, by push_cast; omega⟩, rfl, rfl⟩)⟩
  · rintro ds1 m1 ⟨y1, y2, y3, y4, y5, y6, y7, a1, c1, ha1, hc1, rfl, rfl⟩
    exact wss_one (ws_retE ee_bl (h _ _ ha1 ⟨hc1.1, by
      have := hc1.2
      rw [List.length_map, List.length_range] at this
      omega⟩))
end
end K15
end W9
namespace W9
open PySem PySem.Spec PyProof.Rows L2 LamX
theorem fun_bindsK {K : PySem.W.Frag} {x qual : Str} {st : Stmt} {f : Addr} {fd : FuncData} {ps ks : List Str} {gU : List Value → List Value} (F : Fun K x qual st f fd)
    (h : ∀ (kV doc pm : Value) (an : Option Addr) (cdv ct : Value) (a : Value) (us : List Value), us.length = ks.length → bindArgs (PySem.W.fnOf x qual (defArgs st) (defBody st) (defScope st) .none kV doc pm an cdv ct) ⟨[a], ks.zip us⟩ = pure (ps.zip (a :: gU us))) :
    ∀ (s : Shared) (a : Value) (us : List Value), K.In s.heap → us.length = ks.length → BindsTo s fd ⟨[a], ks.zip us⟩ (ps.zip (a :: gU us)) := by
  obtain ⟨oc, od, kV, doc, pm, an, cdv, ct, osl, rfl, lk, hcd⟩ := F.ex
  exact fun s a us _ hl => BindsTo.of_eq (h kV doc pm an cdv ct a us hl)
theorem fault_cases {n : Nat} {c : Chp} {wr : List (Int × List Nat)} {a w p : PyData} (h : Sim n c wr) (hn : n ≤ 50) (h10 : (toI a).natAbs ≤ 10) : (∃ ed, c.fault a w p = (.inl ed, c)) ∨
    ∃ (k : Int) (u v : List Nat), a = .int k ∧ w = tx u ∧ p = tx v ∧ c.fault a w p = (.inr .none, { c with fs := c.fs ++ [(c.done + k, u, v)] }) ∧ Sim (n + 1) { c with fs := c.fs ++ [(c.done + k, u, v)] } wr := by
  unfold Chp.fault
  cases hf : faultB (.tuple [a, w, p]) with
  | false => exact .inl ⟨_, if_pos rfl⟩
  | true =>
    rw [if_neg (fun z => nomatch z)]
    cases hp : c.pend with
    | cons i r => exact .inl ⟨_, rfl⟩
    | nil =>
      obtain ⟨k, u, v, rfl, rfl, rfl, hs⟩ := sim_fault h hn hf hp h10
      refine .inr ⟨k, u, v, rfl, rfl, rfl, ?_, hs⟩
      dsimp only
      rw [strL_tx, strL_tx]
      rfl
namespace K15
local macro_rules | `(tactic| walk_at "sz") => `(tactic| first | assumption | omega | decide | (simp only [List.length_append, List.length_map, List.length_zipIdx, List.length_cons, List.length_nil, List.length_replicate, List.length_range, List.length_zip, List.length_take, List.length_drop]; omega) | (simp; omega) | (simp; done))
local macro_rules | `(tactic| walk_at "bd") => `(tactic| first | exact bd_add | exact bd_sub | exact bd_mul (by omega) | exact bd_mod (by omega) | exact bd_mod (by decide +kernel) | exact bd_pow (by omega) | exact bd_powX (by decide +kernel) | exact bd_div (by omega) | exact bd_addS (by walk_at "sz") | exact bd_mulS (by walk_at "sz") | exact bd_catL (by walk_at "sz"))
local macro_rules | `(tactic| walk_at "cd") => `(tactic| first | exact cd_lt | exact cd_le | exact cd_gt | exact cd_ge | exact cd_eq | exact cd_ne | exact cd_isN | exact cd_notN | exact cd_eqS | exact cd_neS | exact cd_ltS | exact cd_inS | exact cd_notinS | exact cd_inTs (Rm.mono (by assumption) (by decide)) (by assumption) (by assumption) | exact cd_notinTs | exact cd_eqT | exact cd_neT | exact cd_notinI (Rm.mono (by assumption) (by decide)))
local macro_rules | `(tactic| walk_at "ca") => `(tactic| first | exact ca_isiD (by simp) | exact ca_lenS (by walk_at "sz") | exact ca_lenL | exact ca_lenT | exact ca_allm rfl | exact ca_int | exact ca_intB | exact ca_abs | exact ca_max2 rfl | exact ca_min2 rfl | exact ca_sum rfl | exact ca_tupL | exact ca_listL | exact ca_listT | exact ca_maxS rfl | exact ca_listS rfl (by walk_at "sz"))
local macro_rules | `(tactic| walk_at "sl") => `(tactic| first | exact sl_S (by walk_at "sz") | exact sl_L | exact sl_T)
local macro_rules | `(tactic| walk_at "rg") => `(tactic| omega)
local macro_rules | `(tactic| walk_at "asc") => `(tactic| first | assumption | exact HexL.asc (by assumption))
local macro_rules | `(tactic| walk_at "sd") => `(tactic| first | exact sd_tup (by rfl) | exact sd_lst (by rfl) | exact sd_tup (at_nn (by decide) (by rfl)) | exact sd_lst (at_nn (by decide) (by rfl)))
local macro_rules | `(tactic| walk_at "call _law_fault_due") => `(tactic| exact .mk (by assumption) (by assumption) (by assumption))
section
variable {P : Program} {w : World} {K : PySem.W.Frag} {mg : Str → Option Value} {base : Heap}
inductive F__law_is_fault_right (T : Tx P K mg) : FT
  | mk {p : Addr} {a b c : Int} {m : MS} {A : CA} {n : Nat} {ch : Chp} {wr : List (Int × List Nat)} {Pp : SD → MS → Prop} (ha : 0 ≤ a) (hb : PB b) (hc : 0 ≤ c ∧ c ≤ 80000) (hpf : p ∉ ad (m ++ chM T.o_Chip A ch)) (hm : (T.t__law_is_fault_right, OV.tab "_law_is_fault_right.<locals>.<lambda>") ∈ m) (h : Sim n ch wr) (hn : n ≤ 50)
      (k : ∀ (c' : Chp) (wr' : List (Int × List Nat)) (a' cc' : Int), Sim (n + 1) c' wr' → 0 ≤ a' → (0 ≤ cc' ∧ cc' ≤ c + 3) → Pp (Tp [.bool true, dictP (c'.own wr').d]) (Pt p a' b cc' :: (m ++ chM T.o_Chip A c'))) : F__law_is_fault_right T [.raw (.ref p), .raw (.ref A.a), Dd (ch.own wr).d] (Pt p a b c :: (m ++ chM T.o_Chip A ch)) Pp
theorem ok__law_is_fault_right (T : Tx P K mg) (tb__law_is_fault_right : LamX.TabB base mg T.q__law_is_fault_right T.t__law_is_fault_right) : FnG P w K mg base CX0 19 T.a__law_is_fault_right T.d__law_is_fault_right ["pot", "chip", "own"] (SpD K (F__law_is_fault_right T)) := by
  refine fnD_okA (W9.Fun.toA T.F__law_is_fault_right) sc__law_is_fault_right (fun xs m Pp h => by cases h <;> rfl) (fun cdv A outer s H E hcd rm xs m Pp hF => ?_)
  cases hF with | @mk p a b c m A n ch wr Pp ha hb hc hpf hm h hn k =>
  have nd := sc__law_is_fault_right.nd
  refine wss_cons (ws_set (i := 3) nd (wg_call (ok__law_fault_drawn T) (rm.mono (by decide)) T.m__law_fault_drawn T.F__law_fault_drawn.kp T.b__law_fault_drawn (EA.to (ea_cons (ee_var (i := 0) rfl) ea_nil) ⟨[], _, rfl, .mk ha hb ⟨hc.1, by omega⟩ hpf fun x wd q a1 c1 g l z ha1 hc1 => ?_⟩)))
  have gx := (gd_tup g).2
  have gw := gx wd (by simp)
  have gq := gx q (by simp)
  have hwf := h.wfo (by omega)
  refine wss_cons (ws_setE (i := 4) (d := .py (dueP (outDue (ch.fault x wd q).1))) nd (EE.is (eg_call (ok__law_fault_due T) (rm.mono (by decide)) T.m__law_fault_due T.F__law_fault_due.kp T.b__law_fault_due (ea_cons (ee_var (i := 2) rfl) (ea_cons (ee_var (i := 3) rfl) ea_nil)) (by walk_at "call _law_fault_due")) (by rw [fault_due h z])) ?_)
  have hrep := h.rep_due (by omega) l
  refine wss_cons (ws_set (i := 5) nd (WE.mono (P := fun d m2 => d = B true ∧ m2 = Pt p a1 b c1 :: (m ++ chM T.o_Chip A (ch.fault x wd q).2)) (wk_raised T (k := 15) tb__law_is_fault_right (hcd.symm.trans T.c__law_is_fault_right) (List.mem_cons_of_mem _ (List.mem_append_left _ hm)) (lamS_by (by decide +kernel)) rfl (fun _ _ _ => rfl) (ee_var (i := 4) rfl) (rm.mono (by decide)) (by decide) hrep fun A' outer' s' H' E' f' c' hr' => ?_) ?_))
  · refine xe_methK (gU := fun us => us) (gV := fun us => us) (xs := [.py x, .py wd, .py q]) (ys := [.py x, .py wd, .py q]) (ks := ["ahead", "word", "pattern"]) (ok_Chip_fault T) (hr'.mono (by decide)) T.S_Chip T.M_Chip_fault (fun_bindsK T.F_Chip_fault fun _ _ _ _ _ _ _ us hl => match us, hl with | [_, _, _], _ => rfl) rfl (fun _ _ z => z) (fun _ _ z => z) (EE.to (ee_var (i := 1) rfl) ⟨A.a, A.dx, ch.sl A, rfl, List.mem_cons_of_mem _ (List.mem_append_right _ List.mem_cons_self), List.mem_cons_of_mem _ (List.mem_append_right _ (List.mem_cons_of_mem _ List.mem_cons_self)), Pt p a1 b c1 :: m, chM T.o_Chip A ch, rfl, .mk h.w g ?_ ?_⟩) (ek_cons (ee_sub (ee_var (i := 3) rfl) ee_int (fun m => by walk_at "sd")) (ek_cons (ee_sub (ee_var (i := 3) rfl) ee_int (fun m => by walk_at "sd")) (ek_cons (ee_sub (ee_var (i := 3) rfl) ee_int (fun m => by walk_at "sd")) ek_nil)))
    · cases hf : ch.fault x wd q with | mk o c2 =>
      cases o with
      | inl ed => exact ⟨ed.1, ed.2, rfl, rfl, rfl, rfl, rfl⟩
      | inr d => exact ⟨rfl, rfl, rfl⟩
    · intro hf hp hin
      obtain ⟨qq, hqq, e⟩ := List.mem_map.mp hin
      have h1 := pend_nil hp qq hqq
      obtain ⟨i, x1, y1, e1, i1, _, _⟩ := faultB_three hf
      cases e1
      have e : qq.1 = ch.done + i := e
      omega
  · rintro _ _ ⟨rfl, rfl⟩
    have hc13 : 0 ≤ c1 ∧ c1 ≤ c + 3 := hc1
    refine wss_cons (ws_set (i := 6) nd (we_dictPr (l := (ch.own wr).d) (EE.to (ee_litems rfl T.m_list (ee_var (i := 2) rfl)) ⟨rfl, fun pl hpl => ?_⟩) rfl T.m_dict bo_dict))
    rw [mrg_own]
    rcases fault_cases (w := wd) (p := q) h hn z with ⟨ed, e⟩ | ⟨k0, u, v, rfl, rfl, rfl, e, hs⟩
    · rw [e]
      refine wss_cons (ws_ife (k := false) (ET.is (et_cmp (ee_var (i := 4) rfl) ee_non (by walk_at "cd")) (by rfl)) (fun z => nomatch z) fun _ => wss_nil ?_)
      exact wss_sealD (i := 6) rfl (wss_one (ws_retE (ee_tup (eap_cons (ee_var (i := 5) rfl) (eap_cons (ee_var (i := 6) rfl) eap_nil))) (k ch wr a1 c1 h.up ha1 hc13)))
    · rw [e] at hpl ⊢
      have hfl : (ch.own wr).fs.length ≤ 60 := h.w.fl
      refine wss_cons (ws_ife (k := true) (ET.is (et_cmp (ee_var (i := 4) rfl) ee_non (by walk_at "cd")) (by rfl)) (fun _ => ?_) fun z => nomatch z)
      refine wss_one (ws_putD (k := .inr "faults") (hu_of rm.r) (ee_var (i := 6) rfl) ee_str (EE.to (EE.is (d' := .py (.list ((ch.fs ++ [(ch.done + k0, u, v)]).map f3P))) (ee_bin (ee_callTy (ea_cons (ee_getD (k := .inr "faults") (hu_of rm.r) (ee_var (i := 2) rfl) ee_str gk_faults) ea_nil) (fun m => by walk_at "ca") T.m_list bo_list) (ee_lst (eap_cons (ee_tup (eap_cons (ee_bin (ee_getD (k := .inr "done") (hu_of rm.r) (ee_var (i := 2) rfl) ee_str gk_done) (ee_sub (ee_var (i := 3) rfl) ee_int (fun m => by walk_at "sd")) (by walk_at "bd")) (eap_cons (ee_sub (ee_var (i := 3) rfl) ee_int (fun m => by walk_at "sd")) (eap_cons (ee_sub (ee_var (i := 3) rfl) ee_int (fun m => by walk_at "sd")) eap_nil)))) eap_nil)) (by walk_at "bd")) (by rw [List.map_append]; rfl)) ⟨_, List.mem_cons_self, own_lt, ?_⟩))
      rw [mset_hd hpl, sk_faults]
      exact wss_sealD (i := 6) rfl (wss_one (ws_retE (ee_tup (eap_cons (ee_var (i := 5) rfl) (eap_cons (ee_var (i := 6) rfl) eap_nil))) (k _ wr a1 c1 hs ha1 hc13)))
end
end K15
end W9
namespace W9
namespace K15
open PySem PySem.Spec PyProof.Rows L2
local macro_rules | `(tactic| walk_at "sz") => `(tactic| first | assumption | omega | decide | (simp only [List.length_append, List.length_map, List.length_zipIdx, List.length_cons, List.length_nil, List.length_replicate, List.length_range, List.length_zip, List.length_take, List.length_drop]; omega) | (simp; omega) | (simp; done))
local macro_rules | `(tactic| walk_at "bd") => `(tactic| first | exact bd_add | exact bd_sub | exact bd_mul (by omega) | exact bd_mod (by omega) | exact bd_mod (by decide +kernel) | exact bd_pow (by omega) | exact bd_powX (by decide +kernel) | exact bd_div (by omega) | exact bd_addS (by walk_at "sz") | exact bd_mulS (by walk_at "sz") | exact bd_catL (by walk_at "sz"))
local macro_rules | `(tactic| walk_at "cd") => `(tactic| first | exact cd_lt | exact cd_le | exact cd_gt | exact cd_ge | exact cd_eq | exact cd_ne | exact cd_isN | exact cd_notN | exact cd_eqS | exact cd_neS | exact cd_ltS | exact cd_inS | exact cd_notinS | exact cd_inTs (Rm.mono (by assumption) (by decide)) (by assumption) (by assumption) | exact cd_notinTs | exact cd_eqT | exact cd_neT | exact cd_notinI (Rm.mono (by assumption) (by decide)))
local macro_rules | `(tactic| walk_at "ca") => `(tactic| first | exact ca_isiD (by simp) | exact ca_lenS (by walk_at "sz") | exact ca_lenL | exact ca_lenT | exact ca_allm rfl | exact ca_int | exact ca_intB | exact ca_abs | exact ca_max2 rfl | exact ca_min2 rfl | exact ca_sum rfl | exact ca_tupL | exact ca_listL | exact ca_listT | exact ca_maxS rfl | exact ca_listS rfl (by walk_at "sz"))
local macro_rules | `(tactic| walk_at "sl") => `(tactic| first | exact sl_S (by walk_at "sz") | exact sl_L | exact sl_T)
local macro_rules | `(tactic| walk_at "rg") => `(tactic| omega)
local macro_rules | `(tactic| walk_at "asc") => `(tactic| first | assumption | exact HexL.asc (by assumption))
local macro_rules | `(tactic| walk_at "sd") => `(tactic| first | exact sd_tup (by rfl) | exact sd_lst (by rfl) | exact sd_tup (at_nn (by decide) (by rfl)) | exact sd_lst (at_nn (by decide) (by rfl)))
section
variable {P : Program} {w : World} {K : PySem.W.Frag} {mg : Str → Option Value} {base : Heap}
inductive R__law_cells : List SD → SD → Prop
  | mk {ns : List Int} (hl : ns.length ≤ 100) : R__law_cells [Ls (ns.map .int), I 1] (Ls [.int 0])
theorem ok__law_cells (T : Tx P K mg) : FnG P w K mg base CX0 3 T.a__law_cells T.d__law_cells ["script", "most"] (SpD K (pureF R__law_cells)) := by
  refine fnD_okA (W9.Fun.toA T.F__law_cells) sc__law_cells (fun xs m Pp ⟨d, h, _⟩ => by cases h <;> rfl) (fun cdv A outer s H E hcd rm xs m Pp ⟨d, hR, hp⟩ => ?_)
  cases hR with | @mk ns hl =>
  refine wss_one (ws_retE (EE.is (ee_listRg (n := 1) (EE.is (ee_callB (ea_cons ee_int (ea_cons (ee_callB (ea_cons (ee_var (i := 1) rfl) (ea_cons (ee_callB (ea_cons (ee_var (i := 0) rfl) ea_nil) (fun m => by walk_at "ca") T.m_len bo_len) ea_nil)) (fun m => by walk_at "ca") T.m_min bo_min) ea_nil)) (fun m => by walk_at "ca") T.m_max bo_max) (congrArg I ?_)) ⟨by decide, by decide⟩ T.m_list T.m_range) rfl) hp)
  rw [List.length_map]
  all_goals (repeat' split) <;> omega
end
end K15
end W9
namespace W9
open PySem PySem.Spec PyProof.Rows L2
/-! ### what is drawn in a lap -/
def placeL : List PyData := [.int 0, .int 1, .int 2, .int 3, .int 15, .int 16, .int (-1), .bool true, .none, tx [48], .tuple [.int 0], .int 7]
theorem place_all : ∀ d ∈ placeL, repB d = true := by decide +kernel
theorem place_ok {j : Int} (h : 0 ≤ j ∧ j < 16) : ∀ d ∈ placeL ++ [.int j], Rep d := fun d hd => by
  rcases List.mem_append.mp hd with z | z
  · exact rep_by (place_all d z)
  · rw [List.mem_singleton.mp z]
    exact rep_lf (decide_eq_true (show j.natAbs < 10 ^ 11 by omega))
def cellsL (pg : List Nat) : List PyData := [tx pg, tx pg, tx (cut pg none (some 255)), tx (pg ++ [48]), tx (cut pg none (some 255) ++ [103]), tx (pg.map upC), .none, .list [tx pg], tx []]
theorem lf_tx {l : List Nat} (h : ∀ c ∈ l, c < 128) (hl : l.length ≤ 1000) : lfB (tx l) = true := by
  unfold lfB
  rw [Bool.and_eq_true, decide_eq_true_eq, List.all_eq_true]
  exact ⟨by show l.toArray.size ≤ 1000; rw [List.size_toArray]; exact hl, fun c hc => decide_eq_true (by have := h c hc; omega)⟩
theorem gd_txs {l : List Nat} (h : ∀ c ∈ l, c < 128) (hl : l.length ≤ 1000) : gdB (tx l) = true := by
  unfold gdB
  rw [Bool.and_eq_true, decide_eq_true_eq, List.all_eq_true]
  exact ⟨by show l.toArray.size ≤ 1000; rw [List.size_toArray]; exact hl, fun c hc => decide_eq_true (by have := h c hc; omega)⟩
theorem cells_ok {pg : List Nat} (h : HexL pg ∧ pg.length = 256) : ∀ d ∈ cellsL pg, gdB d = true ∧ Rep d := by
  have h1 : ∀ c ∈ pg, c < 128 := fun c hc => hex_128 (h.1 c hc)
  have hl := h.2
  have t : ∀ l : List Nat, (∀ c ∈ l, c < 128) → l.length ≤ 1000 → gdB (tx l) = true ∧ Rep (tx l) := fun l a b => ⟨gd_txs a b, rep_lf (lf_tx a b)⟩
  have hc : ∀ c ∈ cut pg none (some 255), c < 128 := fun c z => h1 c (List.mem_of_mem_drop (List.mem_of_mem_take z))
  have hcl : (cut pg none (some 255)).length ≤ 256 := cut_le (by omega)
  intro d hd
  unfold cellsL at hd
  simp only [List.mem_cons, List.not_mem_nil, or_false] at hd
  rcases hd with rfl | rfl | rfl | rfl | rfl | rfl | rfl | rfl | rfl
  · exact t _ h1 (by omega)
  · exact t _ h1 (by omega)
  · exact t _ hc (by omega)
  · refine t _ (fun c z => ?_) (by rw [List.length_append]; show pg.length + 1 ≤ 1000; omega)
    rcases List.mem_append.mp z with z | z
    · exact h1 c z
    · rw [List.mem_singleton.mp z]; decide
  · refine t _ (fun c z => ?_) (by rw [List.length_append]; show (cut pg none (some 255)).length + 1 ≤ 1000; omega)
    rcases List.mem_append.mp z with z | z
    · exact hc c z
    · rw [List.mem_singleton.mp z]; decide
  · refine t _ (fun c z => ?_) (by rw [List.length_map]; omega)
    obtain ⟨x, hx, rfl⟩ := List.mem_map.mp z
    exact upC_lt (h1 x hx)
  · exact ⟨rfl, rep_lf rfl⟩
  · refine ⟨?_, rep_ls (by rw [List.all_cons, lf_tx h1 (by omega)]; rfl) (by show 1 ≤ 1000; decide)⟩
    show (true && (gdB (tx pg) && true)) = true
    rw [gd_txs h1 (by omega)]
    rfl
  · exact t _ (fun c z => nomatch z) (by decide)
def blockL : List PyData := [.int 0, .int 3, .int 4, .int (-1), .none, .bool true, tx [49], .int 2]
theorem block_ok : ∀ d ∈ blockL, repB d = true := by decide +kernel
def cellL : List PyData := [.int 0, .int 255, .int 256, .int (-1), .none, .bool true, .int 9]
theorem cell_ok : ∀ d ∈ cellL, lfB d = true := by decide +kernel
def signL : List PyData := [tx [48], tx [102], tx [103], tx [], .none, .int 0, tx [48, 48], tx [65]]
theorem sign_ok : ∀ d ∈ signL, lfB d = true ∧ gdB d = true := by decide +kernel
theorem rep_wdue {o : Own} {place cells : PyData} (hp : Rep place) (hc : Rep cells) : ∀ e d, o.wdue place cells = some (e, d) → Rep d := fun e d z => by
  unfold Own.wdue at z
  split at z
  · cases z; exact hp
  · split at z
    · cases z; exact hc
    · split at z
      · cases z; exact hp
      · split at z
        · cases z
        · cases z; exact rep_lf rfl
theorem rep_edue {o : Own} {block : PyData} (hp : Rep block) : ∀ e d, o.edue block = some (e, d) → Rep d := fun e d z => by
  unfold Own.edue at z
  split at z
  · cases z; exact hp
  · split at z
    · cases z
    · cases z; exact rep_lf rfl
theorem rep_adue {o : Own} {place cell sign : PyData} (hp : Rep place) (hc : lfB cell = true) (hs : lfB sign = true) : ∀ e d, o.adue place cell sign = some (e, d) → Rep d := fun e d z => by
  unfold Own.adue at z
  split at z
  · cases z; exact hp
  · split at z
    · cases z
    · cases z; exact rep_tp (by rw [List.all_cons, List.all_cons, hc, hs]; rfl) (by show 2 ≤ 1000; decide)
theorem rep_rdue {place : PyData} (hp : Rep place) : ∀ e d, readDue place = some (e, d) → Rep d := fun e d z => by
  unfold readDue at z
  split at z
  · cases z; exact hp
  · cases z
theorem rep_told {told : PyData} {o : Out} (h : ToldIs told o) : ∀ e d, outDue o = some (e, d) → Rep d := fun e d z => by
  rcases h with ⟨_, h⟩ | ⟨_, h⟩
  · rw [h] at z; cases z; exact rep_lf rfl
  · rw [h] at z; cases z
end W9
namespace W9
namespace K15
open PySem PySem.Spec PyProof.Rows L2 LamX
def forB : Stmt → List Stmt
  | .For _ _ b _ _ => b
  | _ => []
def ifT : Stmt → List Stmt
  | .If _ t _ _ => t
  | _ => []
def ifF : Stmt → List Stmt
  | .If _ _ t _ => t
  | _ => []
def lapS : List Stmt := forB ((defBody (topS 61)).getD 5 (.Pass ⟨0, 0, 0, 0⟩))
def hdS (l : List Stmt) : Stmt := l.getD 0 (.Pass ⟨0, 0, 0, 0⟩)
def if0 : Stmt := lapS.getD 3 (.Pass ⟨0, 0, 0, 0⟩)
def if1 : Stmt := hdS (ifF if0)
def if2 : Stmt := hdS (ifF if1)
def if3 : Stmt := hdS (ifF if2)
local macro_rules | `(tactic| walk_at "sz") => `(tactic| first | assumption | omega | decide | (simp only [List.length_append, List.length_map, List.length_zipIdx, List.length_cons, List.length_nil, List.length_replicate, List.length_range, List.length_zip, List.length_take, List.length_drop]; omega) | (simp; omega) | (simp; done))
local macro_rules | `(tactic| walk_at "bd") => `(tactic| first | exact bd_add | exact bd_sub | exact bd_mul (by omega) | exact bd_mod (by omega) | exact bd_mod (by decide +kernel) | exact bd_pow (by omega) | exact bd_powX (by decide +kernel) | exact bd_div (by omega) | exact bd_addS (by walk_at "sz") | exact bd_mulS (by walk_at "sz") | exact bd_catL (by walk_at "sz"))
local macro_rules | `(tactic| walk_at "cd") => `(tactic| first | exact cd_lt | exact cd_le | exact cd_gt | exact cd_ge | exact cd_eq | exact cd_ne | exact cd_isN | exact cd_notN | exact cd_eqS | exact cd_neS | exact cd_ltS | exact cd_inS | exact cd_notinS | exact cd_inTs (Rm.mono (by assumption) (by decide)) (by assumption) (by assumption) | exact cd_notinTs | exact cd_eqT | exact cd_neT | exact cd_notinI (Rm.mono (by assumption) (by decide)))
local macro_rules | `(tactic| walk_at "ca") => `(tactic| first | exact ca_isiD (by simp) | exact ca_lenS (by walk_at "sz") | exact ca_lenL | exact ca_lenT | exact ca_allm rfl | exact ca_int | exact ca_intB | exact ca_abs | exact ca_max2 rfl | exact ca_min2 rfl | exact ca_sum rfl | exact ca_tupL | exact ca_listL | exact ca_listT | exact ca_maxS rfl | exact ca_listS rfl (by walk_at "sz"))
local macro_rules | `(tactic| walk_at "sl") => `(tactic| first | exact sl_S (by walk_at "sz") | exact sl_L | exact sl_T)
local macro_rules | `(tactic| walk_at "rg") => `(tactic| omega)
local macro_rules | `(tactic| walk_at "asc") => `(tactic| first | assumption | exact HexL.asc (by assumption))
local macro_rules | `(tactic| walk_at "sd") => `(tactic| first | exact sd_tup (by rfl) | exact sd_lst (by rfl) | exact sd_tup (at_nn (by decide) (by rfl)) | exact sd_lst (at_nn (by decide) (by rfl)))
local macro_rules | `(tactic| walk_at "call _law_is_int") => `(tactic| exact .mk)
theorem paired_app {α β : Type} {R : α → β → Prop} {a c : List α} {b d : List β} (h : Paired R a b) (h2 : Paired R c d) : Paired R (a ++ c) (b ++ d) := by
  induction h with
  | nil => exact h2
  | cons x _ ih => exact .cons x ih
theorem paired_rev {α β : Type} {R : α → β → Prop} {a : List α} {b : List β} (h : Paired R a b) : Paired R a.reverse b.reverse := by
  induction h with
  | nil => exact .nil
  | cons x _ ih => rw [List.reverse_cons, List.reverse_cons]; exact paired_app ih (.cons x .nil)
theorem dss_app2 {K : PySem.W.Frag} {G : Hp} {a c : List V} {b d : List SD} (h : DSs K G a b) (h2 : DSs K G c d) : DSs K G (a ++ c) (b ++ d) := by
  induction h with
  | nil => exact h2
  | cons x _ ih => exact .cons x ih
theorem dss_rev {K : PySem.W.Frag} {G : Hp} {a : List V} {b : List SD} (h : DSs K G a b) : DSs K G a.reverse b.reverse := by
  induction h with
  | nil => exact .nil
  | cons x _ ih => rw [List.reverse_cons, List.reverse_cons]; exact dss_app2 ih (.cons x .nil)
section
variable {P : Program} {w : World} {K : PySem.W.Frag} {mg : Str → Option Value} {base : Heap} {f : Addr} {cd : Value} {A0 : Around} {outer : List Env} {s : Shared} {H : Hp} {E : XK}
abbrev lapD (p : Addr) (fs : PyData) (pg : List Nat) (A : CA) (o : Own) (y : SD) (place cells way : PyData) (y9 y10 y11 y12 y13 y14 : Option SD) : DE :=
  [some (.raw (.ref p)), some (.py fs), some (S pg), some (.raw (.ref A.a)), some (Dd o.d), some y, some (.py place), some (.py cells), some (.py way), y9, y10, y11, y12, y13, y14]
/-- what stands behind a lap's deed -/
def LapK (C : Addr) (p : Addr) (b c : Int) (m : MS) (A : CA) (n : Nat) (fs : PyData) (pg : List Nat) (y : SD) (place cells way : PyData) (Q : DE → MS → Prop) : Prop :=
  ∀ (c' : Chp) (wr' : List (Int × List Nat)) (z9 z10 z12 z13 z14 : Option SD) (a' c2 : Int), Sim (n + 1) c' wr' → 0 ≤ a' → (0 ≤ c2 ∧ c2 ≤ c + 3) → Q (lapD p fs pg A (c'.own wr') y place cells way z9 z10 (some (B true)) z12 z13 z14) (Pt p a' b c2 :: (m ++ chM C A c'))
/-- a lap's write -/
theorem way_write (T : Tx P K mg) (tb__law_right : LamX.TabB base mg T.q__law_right T.t__law_right) (hcode : cd = .ref T.q__law_right) (rm : Rm 28 (bX P w K mg base ["pot", "faults", "page", "chip", "own", "lap", "place", "cells", "way", "due", "told", "is_right", "block", "cell", "sign"] "_law_right" (defScope (topS 61)) f cd A0 outer s H E).A) {p : Addr} {a b c : Int} {m : MS} {A : CA} {n : Nat} {ch : Chp} {wr : List (Int × List Nat)} {fs : PyData} {pg : List Nat} {y : SD} {place cells way : PyData} {y9 y10 y11 y12 y13 y14 : Option SD} {ED : ED}
    (ha : 0 ≤ a) (hb : PB b) (hc : 0 ≤ c ∧ c ≤ 70000) (hpf : p ∉ ad (m ++ chM T.o_Chip A ch)) (hm : (T.t__law_right, OV.tab "_law_right.<locals>.<lambda>") ∈ m) (h : Sim n ch wr) (hn : n ≤ 50) (hpl : Rep place) (hce : gdB cells = true ∧ Rep cells) (k : LapK T.o_Chip p b c m A n fs pg y place cells way ED.nx) :
    WSs (bX P w K mg base ["pot", "faults", "page", "chip", "own", "lap", "place", "cells", "way", "due", "told", "is_right", "block", "cell", "sign"] "_law_right" (defScope (topS 61)) f cd A0 outer s H E) (ifT if0) (lapD p fs pg A (ch.own wr) y place cells way y9 y10 y11 y12 y13 y14) (Pt p a b c :: (m ++ chM T.o_Chip A ch)) ED := by
  have nd := sc__law_right.nd
  have hwf := h.wfo (by omega)
  refine wss_cons (ws_setE (i := 9) (d := .py (dueP ((ch.own wr).wdue place cells))) nd (eg_call (ok__law_write_due T) (rm.mono (by decide)) T.m__law_write_due T.F__law_write_due.kp T.b__law_write_due (ea_cons (ee_var (i := 4) rfl) (ea_cons (ee_var (i := 6) rfl) (ea_cons (ee_var (i := 7) rfl) ea_nil))) (.mk hwf h.g hce.1)) ?_)
  refine wss_mid (fun ds' m' => ∃ (wr' : List (Int × List Nat)) (z10 : Option SD), ds' = lapD p fs pg A ((ch.write place cells).2.own wr') y place cells way (some (.py (dueP (outDue (ch.write place cells).1)))) z10 y11 y12 y13 y14 ∧ m' = Pt p a b c :: (m ++ chM T.o_Chip A ch) ∧ Sim (n + 1) (ch.write place cells).2 wr' ∧ ∀ e d, outDue (ch.write place cells).1 = some (e, d) → Rep d) ?_ ?_
  · rcases write_due (place := place) (cells := cells) h hn with ⟨⟨er, dd⟩, e1, e2⟩ | ⟨e1, i, t, rfl, rfl, hi, ht, wr', told, ew, et, hs⟩
    · have hr := rep_wdue (o := ch.own wr) hpl hce.2
      rw [e1] at hr ⊢
      rw [e2]
      exact ws_ife (k := false) (ET.is (et_cmp (ee_var (i := 9) rfl) ee_non (by walk_at "cd")) (by rfl)) (fun z => nomatch z) fun _ => wss_nil ⟨wr, y10, rfl, rfl, h.up, hr⟩
    · rw [e1]
      refine ws_ife (k := true) (ET.is (et_cmp (ee_var (i := 9) rfl) ee_non (by walk_at "cd")) (by rfl)) (fun _ => ?_) fun z => nomatch z
      refine wss_cons (ws_asg (js := [4, 10]) (EE.to (EE.is (d' := Tp [dictP ((ch.write (.int i) (tx t)).2.own wr').d, told]) (eg_call (ok__law_chip_written T) (rm.mono (by decide)) T.m__law_chip_written T.F__law_chip_written.kp T.b__law_chip_written (ea_cons (ee_var (i := 4) rfl) (ea_cons (ee_var (i := 6) rfl) (ea_cons (ee_var (i := 7) rfl) ea_nil))) (.mk hwf ⟨hi.1, by show i < ch.bl * ch.pg; rw [h.g.1, h.g.2]; exact hi.2⟩ ht)) (by rw [ew])) ?_))
      refine wg_tup (wgs_cons (wg_name (i := 4) (wgs_cons (wg_name (i := 10) (wgs_nil ?_) nd)) nd))
      rcases et with ⟨rfl, e3⟩ | ⟨⟨bb, rfl⟩, e3⟩
      · refine wss_one (ws_setE (i := 9) (d := .py (dueP (some (.cut, .none)))) nd (ee_if (k := true) (ET.is (et_cmp (ee_var (i := 10) rfl) (ee_strS (l := [99, 117, 116])) (by walk_at "cd")) (by rfl)) (fun _ => (ee_tup (eap_cons (ee_strS (l := [99, 117, 116])) (eap_cons ee_non eap_nil)))) (fun z => nomatch z)) ?_)
        exact ⟨wr', _, by rw [e3]; rfl, rfl, hs, rep_told (.inl ⟨rfl, e3⟩)⟩
      · refine wss_one (ws_setE (i := 9) (d := .py (dueP none)) nd (ee_if (k := false) (ET.is (et_cmp (ee_var (i := 10) rfl) (ee_strS (l := [99, 117, 116])) (cd_eqD (rm.mono (by decide)) (by rfl) (sh_str (w := cutL) (by decide)))) (by rfl)) (fun z => nomatch z) (fun _ => ee_non)) ?_)
        exact ⟨wr', _, by rw [e3]; rfl, rfl, hs, rep_told (.inr ⟨⟨bb, rfl⟩, e3⟩)⟩
  · rintro _ _ ⟨wr', z10, rfl, rfl, hs, hrep⟩
    refine wss_one (ws_set (i := 11) nd (WE.mono (P := fun d m2 => d = B true ∧ m2 = Pt p a b c :: (m ++ chM T.o_Chip A (ch.write place cells).2)) (wk_raised T (k := 15) tb__law_right hcode (List.mem_cons_of_mem _ (List.mem_append_left _ hm)) (lamS_by (by decide +kernel)) rfl (fun _ _ _ => rfl) (ee_var (i := 9) rfl) (rm.mono (by decide)) (by decide) hrep fun A' outer' s' H' E' f' c' hr' => ?_) ?_))
    · refine xe_methK (gU := List.reverse) (gV := List.reverse) (xs := [.py cells, .py place]) (ys := [.py place, .py cells]) (ks := ["cells", "place"]) (ok_Chip_write T) (hr'.mono (by decide)) T.S_Chip T.M_Chip_write (fun_bindsK T.F_Chip_write fun _ _ _ _ _ _ _ us hl => match us, hl with | [_, _], _ => rfl) rfl (fun _ _ z => paired_rev z) (fun _ _ z => dss_rev z) (EE.to (ee_var (i := 3) rfl) ⟨A.a, A.dx, ch.sl A, rfl, List.mem_cons_of_mem _ (List.mem_append_right _ List.mem_cons_self), List.mem_cons_of_mem _ (List.mem_append_right _ (List.mem_cons_of_mem _ List.mem_cons_self)), Pt p a b c :: m, chM T.o_Chip A ch, rfl, .mk h.w hce.1 ?_⟩) (ek_cons (ee_var (i := 7) rfl) (ek_cons (ee_var (i := 6) rfl) ek_nil))
      cases hf : ch.write place cells with | mk o c2 =>
      cases o with
      | inl ed => exact ⟨ed.1, ed.2, rfl, rfl, rfl, rfl, rfl⟩
      | inr d => exact ⟨rfl, rfl, rfl⟩
    · rintro _ _ ⟨rfl, rfl⟩
      exact k _ wr' _ _ _ _ _ _ _ hs ha ⟨hc.1, by omega⟩
/-- a lap's erase -/
theorem way_erase (T : Tx P K mg) (tb__law_right : LamX.TabB base mg T.q__law_right T.t__law_right) (hcode : cd = .ref T.q__law_right) (rm : Rm 28 (bX P w K mg base ["pot", "faults", "page", "chip", "own", "lap", "place", "cells", "way", "due", "told", "is_right", "block", "cell", "sign"] "_law_right" (defScope (topS 61)) f cd A0 outer s H E).A) {p : Addr} {a b c : Int} {m : MS} {A : CA} {n : Nat} {ch : Chp} {wr : List (Int × List Nat)} {fs : PyData} {pg : List Nat} {y : SD} {place cells way : PyData} {y9 y10 y11 y12 y13 y14 : Option SD} {ED : ED}
    (ha : 0 ≤ a) (hb : PB b) (hc : 0 ≤ c ∧ c ≤ 70000) (hpf : p ∉ ad (m ++ chM T.o_Chip A ch)) (hm : (T.t__law_right, OV.tab "_law_right.<locals>.<lambda>") ∈ m) (h : Sim n ch wr) (hn : n ≤ 50) (hpl : Rep place) (hce : gdB cells = true ∧ Rep cells) (k : LapK T.o_Chip p b c m A n fs pg y place cells way ED.nx) :
    WSs (bX P w K mg base ["pot", "faults", "page", "chip", "own", "lap", "place", "cells", "way", "due", "told", "is_right", "block", "cell", "sign"] "_law_right" (defScope (topS 61)) f cd A0 outer s H E) (ifT if1) (lapD p fs pg A (ch.own wr) y place cells way y9 y10 y11 y12 y13 y14) (Pt p a b c :: (m ++ chM T.o_Chip A ch)) ED := by
  have nd := sc__law_right.nd
  have hwf := h.wfo (by omega)
  refine wss_cons (ws_set (i := 12) nd (wk_of T blockL (by kernel_rfl) ⟨by decide, by decide⟩ (rm.mono (by decide)) (ee_var (i := 0) rfl) ha hb ⟨hc.1, by omega⟩ hpf fun bl a1 c1 hbl ha1 hc1 => ?_))
  have hbr : Rep bl := rep_by (block_ok bl hbl)
  refine wss_cons (ws_setE (i := 9) (d := .py (dueP (if (ch.own wr).on = true then none else some (.cut, .none)))) nd (ee_if (k := (ch.own wr).on) (et_val (ee_getD (k := .inr "is_on") (hu_of rm.r) (ee_var (i := 4) rfl) ee_str gk_is_on)) (fun hk => ?_) (fun hk => ?_)) ?_)
  · rw [if_pos hk]; exact ee_non
  · rw [if_neg (by rw [hk]; exact fun z => nomatch z)]; exact (ee_tup (eap_cons (ee_strS (l := [99, 117, 116])) (eap_cons ee_non eap_nil)))
  refine wss_cons (ws_setE (i := 9) (d := .py (dueP ((ch.own wr).edue bl))) nd (ee_if (k := intB 0 3 bl) (et_val (eg_call (ok__law_is_int T) (rm.mono (by decide)) T.m__law_is_int T.F__law_is_int.kp T.b__law_is_int (ea_cons (ee_var (i := 12) rfl) (ea_cons ee_int (ea_cons ee_int ea_nil))) (by walk_at "call _law_is_int"))) (fun hk => ?_) (fun hk => ?_)) ?_)
  · unfold Own.edue; rw [if_neg (show ¬ intB 0 3 bl = false by rw [hk]; exact fun z => nomatch z)]; exact (ee_var (i := 9) rfl)
  · unfold Own.edue; rw [if_pos hk]; exact (ee_tup (eap_cons (ee_strS (l := [98, 108, 111, 99, 107])) (eap_cons (ee_var (i := 12) rfl) eap_nil)))
  refine wss_mid (fun ds' m' => ∃ (wr' : List (Int × List Nat)) (z10 : Option SD), ds' = lapD p fs pg A ((ch.erase bl).2.own wr') y place cells way (some (.py (dueP (outDue (ch.erase bl).1)))) z10 y11 (some (.py bl)) y13 y14 ∧ m' = Pt p a1 b c1 :: (m ++ chM T.o_Chip A ch) ∧ Sim (n + 1) (ch.erase bl).2 wr' ∧ ∀ e d, outDue (ch.erase bl).1 = some (e, d) → Rep d) ?_ ?_
  · rcases erase_due (block := bl) h hn with ⟨⟨er, dd⟩, e1, e2⟩ | ⟨e1, i, rfl, hi, wr', told, ew, et, hs⟩
    · have hr := rep_edue (o := ch.own wr) hbr
      rw [e1] at hr ⊢
      rw [e2]
      exact ws_ife (k := false) (ET.is (et_cmp (ee_var (i := 9) rfl) ee_non (by walk_at "cd")) (by rfl)) (fun z => nomatch z) fun _ => wss_nil ⟨wr, y10, rfl, rfl, h.up, hr⟩
    · rw [e1]
      refine ws_ife (k := true) (ET.is (et_cmp (ee_var (i := 9) rfl) ee_non (by walk_at "cd")) (by rfl)) (fun _ => ?_) fun z => nomatch z
      refine wss_cons (ws_asg (js := [4, 10]) (EE.to (EE.is (d' := Tp [dictP ((ch.erase (.int i)).2.own wr').d, told]) (eg_call (ok__law_chip_erased T) (rm.mono (by decide)) T.m__law_chip_erased T.F__law_chip_erased.kp T.b__law_chip_erased (ea_cons (ee_var (i := 4) rfl) (ea_cons (ee_var (i := 12) rfl) ea_nil)) (.mk hwf ⟨hi.1, by show i < ch.bl; rw [h.g.1]; exact hi.2⟩)) (by rw [ew])) ?_))
      refine wg_tup (wgs_cons (wg_name (i := 4) (wgs_cons (wg_name (i := 10) (wgs_nil ?_) nd)) nd))
      rcases et with ⟨rfl, e3⟩ | ⟨⟨bb, rfl⟩, e3⟩
      · refine wss_one (ws_setE (i := 9) (d := .py (dueP (some (.cut, .none)))) nd (ee_if (k := true) (ET.is (et_cmp (ee_var (i := 10) rfl) (ee_strS (l := [99, 117, 116])) (by walk_at "cd")) (by rfl)) (fun _ => (ee_tup (eap_cons (ee_strS (l := [99, 117, 116])) (eap_cons ee_non eap_nil)))) (fun z => nomatch z)) ?_)
        exact ⟨wr', _, by rw [e3]; rfl, rfl, hs, rep_told (.inl ⟨rfl, e3⟩)⟩
      · refine wss_one (ws_setE (i := 9) (d := .py (dueP none)) nd (ee_if (k := false) (ET.is (et_cmp (ee_var (i := 10) rfl) (ee_strS (l := [99, 117, 116])) (cd_eqD (rm.mono (by decide)) (by rfl) (sh_str (w := cutL) (by decide)))) (by rfl)) (fun z => nomatch z) (fun _ => ee_non)) ?_)
        exact ⟨wr', _, by rw [e3]; rfl, rfl, hs, rep_told (.inr ⟨⟨bb, rfl⟩, e3⟩)⟩
  · rintro _ _ ⟨wr', z10, rfl, rfl, hs, hrep⟩
    refine wss_one (ws_set (i := 11) nd (WE.mono (P := fun d m2 => d = B true ∧ m2 = Pt p a1 b c1 :: (m ++ chM T.o_Chip A (ch.erase bl).2)) (wk_raised T (k := 15) tb__law_right hcode (List.mem_cons_of_mem _ (List.mem_append_left _ hm)) (lamS_by (by decide +kernel)) rfl (fun _ _ _ => rfl) (ee_var (i := 9) rfl) (rm.mono (by decide)) (by decide) hrep fun A' outer' s' H' E' f' c' hr' => ?_) ?_))
    · refine xe_methK (gU := List.reverse) (gV := List.reverse) (xs := [.py bl]) (ys := [.py bl]) (ks := ["block"]) (ok_Chip_erase T) (hr'.mono (by decide)) T.S_Chip T.M_Chip_erase (fun_bindsK T.F_Chip_erase fun _ _ _ _ _ _ _ us hl => match us, hl with | [_], _ => rfl) rfl (fun _ _ z => paired_rev z) (fun _ _ z => dss_rev z) (EE.to (ee_var (i := 3) rfl) ⟨A.a, A.dx, ch.sl A, rfl, List.mem_cons_of_mem _ (List.mem_append_right _ List.mem_cons_self), List.mem_cons_of_mem _ (List.mem_append_right _ (List.mem_cons_of_mem _ List.mem_cons_self)), Pt p a1 b c1 :: m, chM T.o_Chip A ch, rfl, .mk h.w ?_⟩) (ek_cons (ee_var (i := 12) rfl) ek_nil)
      cases hf : ch.erase bl with | mk o c2 =>
      cases o with
      | inl ed => exact ⟨ed.1, ed.2, rfl, rfl, rfl, rfl, rfl⟩
      | inr d => exact ⟨rfl, rfl, rfl⟩
    · rintro _ _ ⟨rfl, rfl⟩
      exact k _ wr' _ _ _ _ _ _ _ hs ha1 ⟨hc1.1, by omega⟩
/-- a lap's fade -/
theorem way_fade (T : Tx P K mg) (tb__law_right : LamX.TabB base mg T.q__law_right T.t__law_right) (hcode : cd = .ref T.q__law_right) (rm : Rm 28 (bX P w K mg base ["pot", "faults", "page", "chip", "own", "lap", "place", "cells", "way", "due", "told", "is_right", "block", "cell", "sign"] "_law_right" (defScope (topS 61)) f cd A0 outer s H E).A) {p : Addr} {a b c : Int} {m : MS} {A : CA} {n : Nat} {ch : Chp} {wr : List (Int × List Nat)} {fs : PyData} {pg : List Nat} {y : SD} {place cells way : PyData} {y9 y10 y11 y12 y13 y14 : Option SD} {ED : ED}
    (ha : 0 ≤ a) (hb : PB b) (hc : 0 ≤ c ∧ c ≤ 70000) (hpf : p ∉ ad (m ++ chM T.o_Chip A ch)) (hm : (T.t__law_right, OV.tab "_law_right.<locals>.<lambda>") ∈ m) (h : Sim n ch wr) (hn : n ≤ 50) (hpl : Rep place) (hce : gdB cells = true ∧ Rep cells) (k : LapK T.o_Chip p b c m A n fs pg y place cells way ED.nx) :
    WSs (bX P w K mg base ["pot", "faults", "page", "chip", "own", "lap", "place", "cells", "way", "due", "told", "is_right", "block", "cell", "sign"] "_law_right" (defScope (topS 61)) f cd A0 outer s H E) (ifT if2) (lapD p fs pg A (ch.own wr) y place cells way y9 y10 y11 y12 y13 y14) (Pt p a b c :: (m ++ chM T.o_Chip A ch)) ED := by
  have nd := sc__law_right.nd
  have hwf := h.wfo (by omega)
  refine wss_cons (ws_set (i := 13) nd (wk_of T cellL (by kernel_rfl) ⟨by decide, by decide⟩ (rm.mono (by decide)) (ee_var (i := 0) rfl) ha hb ⟨hc.1, by omega⟩ hpf fun ce a1 c1 hce1 ha1 hc1 => ?_))
  refine wss_cons (ws_set (i := 14) nd (wk_of T signL (by kernel_rfl) ⟨by decide, by decide⟩ (rm.mono (by decide)) (ee_var (i := 0) rfl) ha1 hb ⟨hc1.1, by omega⟩ hpf fun sg a2 c2 hsg ha2 hc2 => ?_))
  have hce1 := cell_ok ce hce1
  obtain ⟨hsg, gsg⟩ := sign_ok sg hsg
  refine wss_cons (ws_setE (i := 9) (d := .py (dueP (some (.fade, .tuple [ce, sg])))) nd (ee_tup (eap_cons (ee_strS (l := [102, 97, 100, 101])) (eap_cons (ee_tup (eap_cons (ee_var (i := 13) rfl) (eap_cons (ee_var (i := 14) rfl) eap_nil))) eap_nil))) ?_)
  refine wss_mid (fun ds' m' => ∃ (wr' : List (Int × List Nat)), ds' = lapD p fs pg A ((ch.fade place ce sg).2.own wr') y place cells way (some (.py (dueP (outDue (ch.fade place ce sg).1)))) y10 y11 y12 (some (.py ce)) (some (.py sg)) ∧ m' = Pt p a2 b c2 :: (m ++ chM T.o_Chip A ch) ∧ Sim (n + 1) (ch.fade place ce sg).2 wr' ∧ ∀ e d, outDue (ch.fade place ce sg).1 = some (e, d) → Rep d) ?_ ?_
  · rcases fade_due (place := place) (cell := ce) (sign := sg) h with ⟨⟨er, dd⟩, e1, e2⟩ | ⟨e1, i, kk, u, rfl, hi, rfl, rfl, hk, hu, hcf, e2, e3, hs⟩
    · have hr := rep_adue (o := ch.own wr) hpl hce1 hsg
      rw [e1] at hr
      rw [e2]
      unfold Own.adue at e1
      refine ws_ife (k := !intB 0 15 place) (et_not (et_val (eg_call (ok__law_is_int T) (rm.mono (by decide)) T.m__law_is_int T.F__law_is_int.kp T.b__law_is_int (ea_cons (ee_var (i := 6) rfl) (ea_cons ee_int (ea_cons ee_int ea_nil))) (by walk_at "call _law_is_int")))) (fun hk => ?_) fun hk => ?_
      · rw [if_pos (not_t hk)] at e1
        cases e1
        exact wss_one (ws_setE (i := 9) nd (ee_tup (eap_cons (ee_strS (l := [112, 108, 97, 99, 101])) (eap_cons (ee_var (i := 6) rfl) eap_nil))) ⟨wr, rfl, rfl, h.up, hr⟩)
      · have hk : intB 0 15 place = true := not_f hk
        rw [if_neg (show ¬ intB 0 15 place = false by rw [hk]; exact fun z => nomatch z)] at e1
        obtain ⟨i, rfl, i1, i2⟩ := intB_of hk
        refine wss_one (ws_ife (k := (ch.own wr).canFade i ce sg) (et_val (eg_call (ok__law_chip_can_fade T) (rm.mono (by decide)) T.m__law_chip_can_fade T.F__law_chip_can_fade.kp T.b__law_chip_can_fade (ea_cons (ee_var (i := 4) rfl) (ea_cons (ee_var (i := 6) rfl) (ea_cons (ee_var (i := 13) rfl) (ea_cons (ee_var (i := 14) rfl) ea_nil)))) (.mk hwf ⟨i1, by show i < ch.bl * ch.pg; rw [h.g.1, h.g.2]; omega⟩ gsg))) (fun hk2 => ?_) fun hk2 => wss_nil ?_)
        · rw [if_pos (show (ch.own wr).canFade (toI (.int i)) ce sg = true from hk2)] at e1
          cases e1
        · rw [if_neg (show ¬ (ch.own wr).canFade (toI (.int i)) ce sg = true from by rw [show (ch.own wr).canFade (toI (.int i)) ce sg = false from hk2]; exact fun z => nomatch z)] at e1
          cases e1
          exact ⟨wr, rfl, rfl, h.up, hr⟩
    · refine ws_ife (k := false) (ET.is (et_not (et_val (eg_call (ok__law_is_int T) (rm.mono (by decide)) T.m__law_is_int T.F__law_is_int.kp T.b__law_is_int (ea_cons (ee_var (i := 6) rfl) (ea_cons ee_int (ea_cons ee_int ea_nil))) (by walk_at "call _law_is_int")))) ?_) (fun z => nomatch z) fun _ => ?_
      · show (!(decide (0 ≤ i) && decide (i ≤ 15))) = false
        rw [decide_eq_true hi.1, decide_eq_true (show i ≤ 15 by omega)]
        rfl
      have hlt : i < ch.bl * ch.pg := by rw [h.g.1, h.g.2]; exact hi.2
      refine wss_one (ws_ife (k := true) (ET.is (et_val (eg_call (ok__law_chip_can_fade T) (rm.mono (by decide)) T.m__law_chip_can_fade T.F__law_chip_can_fade.kp T.b__law_chip_can_fade (ea_cons (ee_var (i := 4) rfl) (ea_cons (ee_var (i := 6) rfl) (ea_cons (ee_var (i := 13) rfl) (ea_cons (ee_var (i := 14) rfl) ea_nil)))) (.mk hwf ⟨hi.1, hlt⟩ gsg))) hcf) (fun _ => ?_) fun z => nomatch z)
      refine wss_one (ws_par (i := 4) (j := 9) nd (wa_cons (EE.to (EE.is (d' := Dd ((ch.fade (.int i) (.int kk) (tx u)).2.own wr).d) (eg_call (ok__law_chip_faded T) (rm.mono (by decide)) T.m__law_chip_faded T.F__law_chip_faded.kp T.b__law_chip_faded (ea_cons (ee_var (i := 4) rfl) (ea_cons (ee_var (i := 6) rfl) (ea_cons (ee_var (i := 13) rfl) (ea_cons (ee_var (i := 14) rfl) ea_nil)))) (.mk hwf ⟨hi.1, hlt⟩ hk hu)) (by rw [e3])) (wa_cons (EE.to ee_non (wa_nil ⟨_, _, rfl, ?_⟩))))))
      exact ⟨wr, by rw [e2]; rfl, rfl, hs.up, fun e d z => by rw [e2] at z; cases z⟩
  · rintro _ _ ⟨wr', rfl, rfl, hs, hrep⟩
    refine wss_one (ws_set (i := 11) nd (WE.mono (P := fun d m2 => d = B true ∧ m2 = Pt p a2 b c2 :: (m ++ chM T.o_Chip A (ch.fade place ce sg).2)) (wk_raised T (k := 15) tb__law_right hcode (List.mem_cons_of_mem _ (List.mem_append_left _ hm)) (lamS_by (by decide +kernel)) rfl (fun _ _ _ => rfl) (ee_var (i := 9) rfl) (rm.mono (by decide)) (by decide) hrep fun A' outer' s' H' E' f' c' hr' => ?_) ?_))
    · refine xe_methK (gU := List.reverse) (gV := List.reverse) (xs := [.py sg, .py ce, .py place]) (ys := [.py place, .py ce, .py sg]) (ks := ["sign", "cell", "place"]) (ok_Chip_fade T) (hr'.mono (by decide)) T.S_Chip T.M_Chip_fade (fun_bindsK T.F_Chip_fade fun _ _ _ _ _ _ _ us hl => match us, hl with | [_, _, _], _ => rfl) rfl (fun _ _ z => paired_rev z) (fun _ _ z => dss_rev z) (EE.to (ee_var (i := 3) rfl) ⟨A.a, A.dx, ch.sl A, rfl, List.mem_cons_of_mem _ (List.mem_append_right _ List.mem_cons_self), List.mem_cons_of_mem _ (List.mem_append_right _ (List.mem_cons_of_mem _ List.mem_cons_self)), Pt p a2 b c2 :: m, chM T.o_Chip A ch, rfl, .mk h.w gsg ?_⟩) (ek_cons (ee_var (i := 14) rfl) (ek_cons (ee_var (i := 13) rfl) (ek_cons (ee_var (i := 6) rfl) ek_nil)))
      cases hf : ch.fade place ce sg with | mk o c2 =>
      cases o with
      | inl ed => exact ⟨ed.1, ed.2, rfl, rfl, rfl, rfl, rfl⟩
      | inr d => exact ⟨rfl, rfl, rfl⟩
    · rintro _ _ ⟨rfl, rfl⟩
      exact k _ wr' _ _ _ _ _ _ _ hs ha2 ⟨hc2.1, by omega⟩
/-- a lap's further fault -/
theorem way_fault (T : Tx P K mg) {m : MS} (tb__law_is_fault_right : LamX.TabB base mg T.q__law_is_fault_right T.t__law_is_fault_right) (hm2 : (T.t__law_is_fault_right, OV.tab "_law_is_fault_right.<locals>.<lambda>") ∈ m) (tb__law_right : LamX.TabB base mg T.q__law_right T.t__law_right) (hcode : cd = .ref T.q__law_right) (rm : Rm 28 (bX P w K mg base ["pot", "faults", "page", "chip", "own", "lap", "place", "cells", "way", "due", "told", "is_right", "block", "cell", "sign"] "_law_right" (defScope (topS 61)) f cd A0 outer s H E).A) {p : Addr} {a b c : Int} {A : CA} {n : Nat} {ch : Chp} {wr : List (Int × List Nat)} {fs : PyData} {pg : List Nat} {y : SD} {place cells way : PyData} {y9 y10 y11 y12 y13 y14 : Option SD} {ED : ED}
    (ha : 0 ≤ a) (hb : PB b) (hc : 0 ≤ c ∧ c ≤ 70000) (hpf : p ∉ ad (m ++ chM T.o_Chip A ch)) (hm : (T.t__law_right, OV.tab "_law_right.<locals>.<lambda>") ∈ m) (h : Sim n ch wr) (hn : n ≤ 50) (hpl : Rep place) (hce : gdB cells = true ∧ Rep cells) (k : LapK T.o_Chip p b c m A n fs pg y place cells way ED.nx) :
    WSs (bX P w K mg base ["pot", "faults", "page", "chip", "own", "lap", "place", "cells", "way", "due", "told", "is_right", "block", "cell", "sign"] "_law_right" (defScope (topS 61)) f cd A0 outer s H E) (ifT if3) (lapD p fs pg A (ch.own wr) y place cells way y9 y10 y11 y12 y13 y14) (Pt p a b c :: (m ++ chM T.o_Chip A ch)) ED := by
  have nd := sc__law_right.nd
  have hwf := h.wfo (by omega)
  refine wss_one (ws_asg (js := [11, 4]) (wg_call (ok__law_is_fault_right T tb__law_is_fault_right) (rm.mono (by decide)) T.m__law_is_fault_right T.F__law_is_fault_right.kp T.b__law_is_fault_right (EA.to (ea_cons (ee_var (i := 0) rfl) (ea_cons (ee_var (i := 3) rfl) (ea_cons (ee_var (i := 4) rfl) ea_nil))) ⟨[], _, rfl, .mk ha hb ⟨hc.1, by omega⟩ hpf hm2 h hn fun c' wr' a1 c1 hs ha1 hc1 => wg_tup (wgs_cons (wg_name (i := 11) (wgs_cons (wg_name (i := 4) (wgs_nil ?_) nd)) nd))⟩)))
  exact k c' wr' _ _ _ _ _ _ _ hs ha1 hc1
/-- a lap's read -/
theorem way_read (T : Tx P K mg) (tb__law_right : LamX.TabB base mg T.q__law_right T.t__law_right) (hcode : cd = .ref T.q__law_right) (rm : Rm 28 (bX P w K mg base ["pot", "faults", "page", "chip", "own", "lap", "place", "cells", "way", "due", "told", "is_right", "block", "cell", "sign"] "_law_right" (defScope (topS 61)) f cd A0 outer s H E).A) {p : Addr} {a b c : Int} {m : MS} {A : CA} {n : Nat} {ch : Chp} {wr : List (Int × List Nat)} {fs : PyData} {pg : List Nat} {y : SD} {place cells way : PyData} {y9 y10 y11 y12 y13 y14 : Option SD} {ED : ED}
    (ha : 0 ≤ a) (hb : PB b) (hc : 0 ≤ c ∧ c ≤ 70000) (hpf : p ∉ ad (m ++ chM T.o_Chip A ch)) (hm : (T.t__law_right, OV.tab "_law_right.<locals>.<lambda>") ∈ m) (h : Sim n ch wr) (hn : n ≤ 50) (hpl : Rep place) (hce : gdB cells = true ∧ Rep cells) (k : LapK T.o_Chip p b c m A n fs pg y place cells way ED.nx) :
    WSs (bX P w K mg base ["pot", "faults", "page", "chip", "own", "lap", "place", "cells", "way", "due", "told", "is_right", "block", "cell", "sign"] "_law_right" (defScope (topS 61)) f cd A0 outer s H E) (ifF if3) (lapD p fs pg A (ch.own wr) y place cells way y9 y10 y11 y12 y13 y14) (Pt p a b c :: (m ++ chM T.o_Chip A ch)) ED := by
  have nd := sc__law_right.nd
  have hwf := h.wfo (by omega)
  refine wss_cons (ws_setE (i := 9) (d := .py (dueP (readDue place))) nd (ee_if (k := intB 0 15 place) (et_val (eg_call (ok__law_is_int T) (rm.mono (by decide)) T.m__law_is_int T.F__law_is_int.kp T.b__law_is_int (ea_cons (ee_var (i := 6) rfl) (ea_cons ee_int (ea_cons ee_int ea_nil))) (by walk_at "call _law_is_int"))) (fun hk => ?_) (fun hk => ?_)) ?_)
  · unfold readDue; rw [if_neg (show ¬ intB 0 15 place = false by rw [hk]; exact fun z => nomatch z)]; exact ee_non
  · unfold readDue; rw [if_pos hk]; exact (ee_tup (eap_cons (ee_strS (l := [112, 108, 97, 99, 101])) (eap_cons (ee_var (i := 6) rfl) eap_nil)))
  have hrep := rep_rdue hpl
  have he : (ch.read place).2 = ch ∧ outDue (ch.read place).1 = readDue place := by
    rcases read_due (place := place) h with ⟨ed, e1, e2⟩ | ⟨e1, d, e2⟩
    · rw [e2, e1]; exact ⟨rfl, rfl⟩
    · rw [e2, e1]; exact ⟨rfl, rfl⟩
  refine wss_one (ws_set (i := 11) nd (WE.mono (P := fun d m2 => d = B true ∧ m2 = Pt p a b c :: (m ++ chM T.o_Chip A (ch.read place).2)) (wk_raised T (k := 15) tb__law_right hcode (List.mem_cons_of_mem _ (List.mem_append_left _ hm)) (lamS_by (by decide +kernel)) rfl (fun _ _ _ => rfl) (ee_var (i := 9) rfl) (rm.mono (by decide)) (by decide) hrep fun A' outer' s' H' E' f' c' hr' => ?_) ?_))
  · rw [← he.2]
    refine xe_meth (ok_Chip_read T) (hr'.mono (by decide)) T.S_Chip T.M_Chip_read T.b_Chip_read (EE.to (ee_var (i := 3) rfl) ⟨A.a, A.dx, ch.sl A, rfl, List.mem_cons_of_mem _ (List.mem_append_right _ List.mem_cons_self), List.mem_cons_of_mem _ (List.mem_append_right _ (List.mem_cons_of_mem _ List.mem_cons_self)), EA.to (ea_cons (ee_var (i := 6) rfl) ea_nil) ⟨Pt p a b c :: m, chM T.o_Chip A ch, rfl, .mk h.w ?_⟩⟩)
    cases hf : ch.read place with | mk o c2 =>
    cases o with
    | inl ed => exact ⟨ed.1, ed.2, rfl, rfl, rfl, rfl, rfl⟩
    | inr d => exact ⟨rfl, rfl, rfl⟩
  · rintro _ _ ⟨rfl, rfl⟩
    rw [he.1]
    exact k ch wr _ _ _ _ _ _ _ h.up ha ⟨hc.1, by omega⟩
end
end K15
end W9
namespace W9
namespace K15
open PySem PySem.Spec PyProof.Rows L2 LamX
local macro_rules | `(tactic| walk_at "sz") => `(tactic| first | assumption | omega | decide | (simp only [List.length_append, List.length_map, List.length_zipIdx, List.length_cons, List.length_nil, List.length_replicate, List.length_range, List.length_zip, List.length_take, List.length_drop]; omega) | (simp; omega) | (simp; done))
local macro_rules | `(tactic| walk_at "bd") => `(tactic| first | exact bd_add | exact bd_sub | exact bd_mul (by omega) | exact bd_mod (by omega) | exact bd_mod (by decide +kernel) | exact bd_pow (by omega) | exact bd_powX (by decide +kernel) | exact bd_div (by omega) | exact bd_addS (by walk_at "sz") | exact bd_mulS (by walk_at "sz") | exact bd_catL (by walk_at "sz"))
local macro_rules | `(tactic| walk_at "cd") => `(tactic| first | exact cd_lt | exact cd_le | exact cd_gt | exact cd_ge | exact cd_eq | exact cd_ne | exact cd_isN | exact cd_notN | exact cd_eqS | exact cd_neS | exact cd_ltS | exact cd_inS | exact cd_notinS | exact cd_inTs (Rm.mono (by assumption) (by decide)) (by assumption) (by assumption) | exact cd_notinTs | exact cd_eqT | exact cd_neT | exact cd_notinI (Rm.mono (by assumption) (by decide)))
local macro_rules | `(tactic| walk_at "ca") => `(tactic| first | exact ca_isiD (by simp) | exact ca_lenS (by walk_at "sz") | exact ca_lenL | exact ca_lenT | exact ca_allm rfl | exact ca_int | exact ca_intB | exact ca_abs | exact ca_max2 rfl | exact ca_min2 rfl | exact ca_sum rfl | exact ca_tupL | exact ca_listL | exact ca_listT | exact ca_maxS rfl | exact ca_listS rfl (by walk_at "sz"))
local macro_rules | `(tactic| walk_at "sl") => `(tactic| first | exact sl_S (by walk_at "sz") | exact sl_L | exact sl_T)
local macro_rules | `(tactic| walk_at "rg") => `(tactic| omega)
local macro_rules | `(tactic| walk_at "asc") => `(tactic| first | assumption | exact HexL.asc (by assumption))
local macro_rules | `(tactic| walk_at "sd") => `(tactic| first | exact sd_tup (by rfl) | exact sd_lst (by rfl) | exact sd_tup (at_nn (by decide) (by rfl)) | exact sd_lst (at_nn (by decide) (by rfl)))
local macro_rules | `(tactic| walk_at "call _law_is_int") => `(tactic| exact .mk)
local macro_rules | `(tactic| walk_at "md") => `(tactic| exact md_upper (by omega))
section
variable {P : Program} {w : World} {K : PySem.W.Frag} {mg : Str → Option Value} {base : Heap}
inductive F__law_right (T : Tx P K mg) : FT
  | mk {p : Addr} {a b c : Int} {m : MS} {Pp : SD → MS → Prop} (ha : 0 ≤ a) (hb : PB b) (hc : 0 ≤ c ∧ c ≤ 1000) (hpf : p ∉ ad m) (hm1 : (T.t__law_are_sizes_right, OV.tab "_law_are_sizes_right.<locals>.<lambda>") ∈ m) (hm2 : (T.t__law_is_fault_right, OV.tab "_law_is_fault_right.<locals>.<lambda>") ∈ m)
      (hm3 : (T.t__law_right, OV.tab "_law_right.<locals>.<lambda>") ∈ m) (k : ∀ (m2 : MS), Pp (B true) (m ++ m2)) : F__law_right T [.raw (.ref p)] (Pt p a b c :: m) Pp
theorem ok__law_right (T : Tx P K mg) (tb__law_are_sizes_right : LamX.TabB base mg T.q__law_are_sizes_right T.t__law_are_sizes_right) (tb__law_is_fault_right : LamX.TabB base mg T.q__law_is_fault_right T.t__law_is_fault_right) (tb__law_right : LamX.TabB base mg T.q__law_right T.t__law_right) : FnG P w K mg base CX0 29 T.a__law_right T.d__law_right ["pot"] (SpD K (F__law_right T)) := by
  refine fnD_okA (W9.Fun.toA T.F__law_right) sc__law_right (fun xs m Pp h => by cases h <;> rfl) (fun cdv A outer s H E hcd rm xs m Pp hF => ?_)
  cases hF with | @mk p a b c m Pp ha hb hc hpf hm1 hm2 hm3 k =>
  have nd := sc__law_right.nd
  refine wss_cons (ws_par (i := 1) (j := 2) nd (wa_cons (we_tup (wa_cons (we_tup (wa_cons (EE.to ee_int (wa_cons (EE.to (ee_strS (l := [99, 117, 116])) (wa_cons (wg_call (ok__law_chip_pattern T) (rm.mono (by decide)) T.m__law_chip_pattern T.F__law_chip_pattern.kp T.b__law_chip_pattern (EA.to (ea_cons (ee_var (i := 0) rfl) ea_nil) ⟨[], _, rfl, .mk ha hb ⟨hc.1, by omega⟩ hpf fun us a1 c1 hus hul ha1 hc1 => wa_nil ⟨[.int 3, tx cutL, tx us], rfl, by show 3 ≤ 1000000; decide, wa_nil ⟨[.tuple [.int 3, tx cutL, tx us]], rfl, by show 1 ≤ 1000000; decide, wa_cons (wg_call (ok__law_chip_page T) (rm.mono (by decide)) T.m__law_chip_page T.F__law_chip_page.kp T.b__law_chip_page (EA.to (ea_cons (ee_var (i := 0) rfl) ea_nil) ⟨[], _, rfl, .mk ha1 hb ⟨hc1.1, by omega⟩ hpf fun pg a2 c2 hpg hpl ha2 hc2 => wa_nil ⟨_, _, rfl, ?_⟩⟩))⟩⟩⟩))))))))))))
  have hfs := fs3_ok hus ⟨hul.1, hul.2⟩
  have gfs : gdB (fs3 us) = true := by
    show (true && ((true && (gdB (.int 3) && (gdB (tx cutL) && (gdB (tx us) && true)))) && true)) = true
    have : gdB (tx us) = true := by
      unfold gdB
      rw [Bool.and_eq_true, decide_eq_true_eq, List.all_eq_true]
      exact ⟨by show us.toArray.size ≤ 1000; rw [List.size_toArray]; omega, fun c hc => decide_eq_true (hex_pl hus c hc)⟩
    rw [this]
    decide +kernel
  refine wss_cons (ws_asg (js := [3, 4]) (we_tupS (wa_cons (we_of_xe (xe_make T.M_Chip (ok_Chip___init__ T) (rm.mono (by decide)) T.m_Chip T.b_Chip___init__ (EA.to (ea_cons ee_int (ea_cons ee_int (ea_cons (ee_var (i := 1) rfl) ea_nil))) fun ai dx _ _ _ => .mk (fs := fs3 us) gfs (fun z => absurd z (by decide)) (fun _ z => absurd z (by decide)) (fun _ _ z => absurd (hfs.symm.trans z) (fun y => nomatch y)) fun _ _ _ A hA => ⟨rfl, ?_⟩))))))
  subst hA
  refine wa_cons (EE.to (eg_call (ok__law_chip_begun T) (rm.mono (by decide)) T.m__law_chip_begun T.F__law_chip_begun.kp T.b__law_chip_begun (ea_cons ee_int (ea_cons ee_int (ea_cons (ee_var (i := 1) rfl) ea_nil))) (.mk (fs := fs3 us) ⟨by decide, by decide, by decide, by decide⟩ hfs)) (wa_nil ⟨by show 2 ≤ 1000000; decide, wg_tupS (wgs_cons (wg_name (i := 3) (wgs_cons (wg_name (i := 4) (wgs_nil ?_) nd)) nd))⟩))
  have hs0 := sim_new hus ⟨hul.1, hul.2⟩
  have hcell := new_cell (us := us) (i := 0) (by decide)
  obtain ⟨wr1, told1, d1, ew1, eo1, hs1⟩ := first_write hus ⟨hul.1, hul.2⟩ ⟨hpg, hpl⟩
  have gpg : gdB (tx pg) = true := by
    unfold gdB
    rw [Bool.and_eq_true, decide_eq_true_eq, List.all_eq_true]
    exact ⟨by show pg.toArray.size ≤ 1000; rw [List.size_toArray]; omega, fun c hc => decide_eq_true (hex_pl hpg c hc)⟩
  refine wss_cons (ws_expr (we_of_xe (xe_meth (ok_Chip_write T) (rm.mono (by decide)) T.S_Chip T.M_Chip_write T.b_Chip_write (EE.to (ee_var (i := 3) rfl) ⟨A.a, A.dx, _, rfl, List.mem_cons_of_mem _ (List.mem_append_right _ List.mem_cons_self), List.mem_cons_of_mem _ (List.mem_append_right _ (List.mem_cons_of_mem _ List.mem_cons_self)), EA.to (ea_cons ee_int (ea_cons (ee_var (i := 2) rfl) ea_nil)) ⟨Pt p a2 b c2 :: m, chM T.o_Chip A (newC 4 4 (fs3 us)), rfl, .mk hs0.w gpg ?_⟩⟩))))
  generalize hwr : (newC 4 4 (fs3 us)).write (.int 0) (tx pg) = r at eo1 ew1 hs1 ⊢
  obtain ⟨o1, ch1⟩ := r
  dsimp only at eo1 ew1 hs1
  subst eo1
  show WSs _ _ _ (Pt p a2 b c2 :: (m ++ chM T.o_Chip A ch1)) _
  have hwf0 : WfO (newO 4 4 (fs3 us)) := hs0.wfo (by decide)
  refine wss_cons (ws_setE (i := 4) (d := Dd (ch1.own wr1).d) nd (ee_sub (EE.is (d' := Tp [dictP (ch1.own wr1).d, told1]) (eg_call (ok__law_chip_written T) (rm.mono (by decide)) T.m__law_chip_written T.F__law_chip_written.kp T.b__law_chip_written (ea_cons (ee_var (i := 4) rfl) (ea_cons ee_int (ea_cons (ee_var (i := 2) rfl) ea_nil))) (.mk hwf0 (show (0 : Int) ≤ 0 ∧ (0 : Int) < 4 * 4 by decide) ⟨hpg, hpl⟩)) (by rw [ew1])) ee_int (fun m => sd_tup (by rfl))) ?_)
  refine wss_nd fun nd0 => ?_
  have hpf1 : p ∉ ad (m ++ chM T.o_Chip A ch1) := (List.nodup_cons.mp nd0).1
  refine wss_cons (ws_if (wt_not (wt_val (wg_call (ok__law_are_sizes_right T tb__law_are_sizes_right) (rm.mono (by decide)) T.m__law_are_sizes_right T.F__law_are_sizes_right.kp T.b__law_are_sizes_right (EA.to (ea_cons (ee_var (i := 0) rfl) ea_nil) ⟨[], _, rfl, .mk ha2 hb ⟨hc2.1, by omega⟩ hpf1 (List.mem_append_left _ hm1) fun a3 c3 ha3 hc3 => ⟨true, rfl, iteF (fun z => nomatch z) (wss_nil ?_)⟩⟩)))))
  have hcl : (cut pg none (some 255)).length ≤ 256 := cut_le (by omega)
  have h128 : ∀ c ∈ pg, c < 128 := fun c z => hex_128 (hpg c z)
  refine wss_cons (ws_for (js := [5]) (((ei_range1 ee_int (by walk_at "rg") T.m_range)).to ⟨fun i ds1 m1 => ∃ (ch : Chp) (wr : List (Int × List Nat)) (y5 y6 y7 y8 y9 y10 y11 y12 y13 y14 : Option SD) (a' c' : Int), Sim (1 + i) ch wr ∧ 0 ≤ a' ∧ (0 ≤ c' ∧ c' ≤ 2000 + 7 * (i : Int)) ∧ ds1 = [some (.raw (.ref p)), some (.py (fs3 us)), some (S pg), some (.raw (.ref A.a)), some (Dd (ch.own wr).d), y5, y6, y7, y8, y9, y10, y11, y12, y13, y14] ∧ m1 = Pt p a' b c' :: (m ++ chM T.o_Chip A ch), ⟨ch1, wr1, none, none, none, none, none, none, none, none, none, none, a3, c3, hs1, ha3, ⟨hc3.1, by omega⟩, rfl, rfl⟩, ?_, ?_⟩))
  · rintro i x ds1 m1 hx ⟨ch, wr, y5, y6, y7, y8, y9, y10, y11, y12, y13, y14, a4, c4, hs, ha4, hc4, rfl, rfl⟩
    obtain ⟨n, hn, rfl⟩ := map_get hx
    have hn24 : i < 24 := by
      have := (List.getElem?_eq_some_iff.mp hn).1
      rw [List.length_range] at this
      exact this
    refine wg_name ?_ nd
    refine wss_nd fun nd1 => ?_
    have hpf2 : p ∉ ad (m ++ chM T.o_Chip A ch) := (List.nodup_cons.mp nd1).1
    refine wss_cons (ws_set (i := 6) nd (wk_ofX T placeL (by kernel_rfl) (by decide) (rm.mono (by decide)) (ee_var (i := 0) rfl) hb hpf2 star_call (wg_call (ok__law_take T) (rm.mono (by decide)) T.m__law_take T.F__law_take.kp T.b__law_take (EA.to (ea_cons (ee_var (i := 0) rfl) (ea_cons ee_int ea_nil)) ⟨[], _, rfl, .mk ha4 hb ⟨hc4.1, by omega⟩ ⟨by decide, by decide⟩ hpf2 fun j a5 c5 hj ha5 hc5 => ⟨.int j, a5, c5, rfl, rfl, ha5, ⟨hc5.1, by omega⟩, fun pl a6 c6 hpm ha6 hc6 => ?_⟩⟩))))
    have hplr := place_ok hj pl hpm
    refine wss_cons (ws_set (i := 7) nd (wk_ofL T (cellsL pg) (eap_cons (ee_var (i := 2) rfl) (eap_cons (ee_var (i := 2) rfl) (eap_cons (ee_slice (ee_var (i := 2) rfl) eo_none (eo_some ee_int) (fun m => by walk_at "sl")) (eap_cons (ee_bin (ee_var (i := 2) rfl) (ee_strS (l := [48])) (by walk_at "bd")) (eap_cons (ee_bin (ee_slice (ee_var (i := 2) rfl) eo_none (eo_some ee_int) (fun m => by walk_at "sl")) (ee_strS (l := [103])) (by walk_at "bd")) (eap_cons (EE.is (d' := S (pg.map upC)) (ee_meth0 PySem.F.plainAttrs_str PySem.F.slot_str_upper PySem.F.type_str_upper (ee_var (i := 2) rfl) (fun m => by walk_at "md")) (by rw [upper_list h128])) (eap_cons ee_non (eap_cons (ee_lst (eap_cons (ee_var (i := 2) rfl) eap_nil)) (eap_cons (ee_strS (l := [])) eap_nil star_cst) star_lst) star_cst) star_call) star_bin) star_bin) star_sub) star_name) star_name) ⟨by show 0 < 9; decide, by show 9 < 1000; decide⟩ (rm.mono (by decide)) (ee_var (i := 0) rfl) ha6 hb ⟨hc6.1, by omega⟩ hpf2 fun ce a7 c7 hcm ha7 hc7 => ?_))
    have hcer := cells_ok ⟨hpg, hpl⟩ ce hcm
    refine wss_cons (ws_set (i := 8) nd (wg_call (ok__law_take T) (rm.mono (by decide)) T.m__law_take T.F__law_take.kp T.b__law_take (EA.to (ea_cons (ee_var (i := 0) rfl) (ea_cons ee_int ea_nil)) ⟨[], _, rfl, .mk ha7 hb ⟨hc7.1, by omega⟩ ⟨by decide, by decide⟩ hpf2 fun wv a8 c8 hwv ha8 hc8 => ?_⟩)))
    refine wss_mid (fun ds' m' => ∃ (c' : Chp) (wr' : List (Int × List Nat)) (z9 z10 z12 z13 z14 : Option SD) (a' c2 : Int), Sim (1 + i + 1) c' wr' ∧ 0 ≤ a' ∧ (0 ≤ c2 ∧ c2 ≤ 2000 + 7 * ((i + 1 : Nat) : Int)) ∧ ds' = lapD p (fs3 us) pg A (c'.own wr') (I (n : Nat)) pl ce (.int wv) z9 z10 (some (B true)) z12 z13 z14 ∧ m' = Pt p a' b c2 :: (m ++ chM T.o_Chip A c')) ?_ ?_
    · have kk : LapK T.o_Chip p b c8 m A (1 + i) (fs3 us) pg (I (n : Nat)) pl ce (.int wv) (fun ds' m' => ∃ (c' : Chp) (wr' : List (Int × List Nat)) (z9 z10 z12 z13 z14 : Option SD) (a' c2 : Int), Sim (1 + i + 1) c' wr' ∧ 0 ≤ a' ∧ (0 ≤ c2 ∧ c2 ≤ 2000 + 7 * ((i + 1 : Nat) : Int)) ∧ ds' = lapD p (fs3 us) pg A (c'.own wr') (I (n : Nat)) pl ce (.int wv) z9 z10 (some (B true)) z12 z13 z14 ∧ m' = Pt p a' b c2 :: (m ++ chM T.o_Chip A c')) :=
        fun c' wr' z9 z10 z12 z13 z14 a' c2 h1 h2 h3 => ⟨c', wr', z9, z10, z12, z13, z14, a', c2, h1, h2, ⟨h3.1, by push_cast; omega⟩, rfl, rfl⟩
      have hcode := hcd.symm.trans T.c__law_right
      have hc70 : 0 ≤ c8 ∧ c8 ≤ 70000 := ⟨hc8.1, by omega⟩
      have hn50 : 1 + i ≤ 50 := by omega
      refine ws_ife (k := decide (wv < 2)) (et_cmp (ee_var (i := 8) rfl) ee_int (by walk_at "cd")) (fun _ => way_write T tb__law_right hcode rm ha8 hb hc70 hpf2 hm3 hs hn50 hplr hcer kk) fun _ => wss_one ?_
      refine ws_ife (k := decide (wv = 2)) (et_cmp (ee_var (i := 8) rfl) ee_int (by walk_at "cd")) (fun _ => way_erase T tb__law_right hcode rm ha8 hb hc70 hpf2 hm3 hs hn50 hplr hcer kk) fun _ => wss_one ?_
      refine ws_ife (k := decide (wv = 3)) (et_cmp (ee_var (i := 8) rfl) ee_int (by walk_at "cd")) (fun _ => way_fade T tb__law_right hcode rm ha8 hb hc70 hpf2 hm3 hs hn50 hplr hcer kk) fun _ => wss_one ?_
      exact ws_ife (k := decide (wv = 4)) (et_cmp (ee_var (i := 8) rfl) ee_int (by walk_at "cd")) (fun _ => way_fault T tb__law_is_fault_right hm2 tb__law_right hcode rm ha8 hb hc70 hpf2 hm3 hs hn50 hplr hcer kk) fun _ => way_read T tb__law_right hcode rm ha8 hb hc70 hpf2 hm3 hs hn50 hplr hcer kk
    · rintro _ _ ⟨c', wr', z9, z10, z12, z13, z14, a', c2, hs2, ha', hc2, rfl, rfl⟩
      obtain ⟨t1, t2, t3, t4⟩ := hs2.told (by omega)
      refine wss_one (ws_if (wt_or (ET.to (ET.is (d' := false) (et_not (et_val (ee_var (i := 11) rfl))) (by rfl)) (iteF (fun z => nomatch z) (wt_not (wt_val (wg_call (ok__law_chip_is_told T) (rm.mono (by decide)) T.m__law_chip_is_told T.F__law_chip_is_told.kp T.b__law_chip_is_told (EA.to (ea_cons (ee_var (i := 3) rfl) (ea_cons (ee_var (i := 4) rfl) ea_nil)) ⟨Pt p a' b c2 :: m, chM T.o_Chip A c', rfl, .mk hs2.w t1 t2 t3 t4 ⟨true, rfl, iteF (fun z => nomatch z) (wss_nil ?_)⟩⟩))))))))
      exact ⟨c', wr', _, _, _, _, _, _, _, _, _, _, a', c2, Nat.add_assoc 1 i 1 ▸ hs2, ha', hc2, rfl, rfl⟩
  · rintro ds1 m1 ⟨ch, wr, y5, y6, y7, y8, y9, y10, y11, y12, y13, y14, a4, c4, hs, ha4, hc4, rfl, rfl⟩
    exact wss_sub (List.sublist_cons_self _ _) (wss_one (ws_retE ee_bl (k _)))
end
end K15
end W9
namespace W9
open PySem PySem.Spec PyProof.Rows L2 LamX
theorem walk_topZ {l : PySem.W.OpenLaw} {n k : Nat} {q : Program} {loose : List Str} {XP : (Str → Option Value) → Heap → Prop} {YP : World → Heap → Prop} {d : DefRec} {K : Params → PySem.W.Frag} {F : PySem.W.Frag → FT} {x : Str} {cs : PySem.W.Frag → TabL}
    (hn : l.most = some n) (hn2 : n ≤ sizeLine) (hdf : d.params.defaults = []) (hr : Room k callerA)
    (hY : ∀ (w : World) (h : Heap), YP w h → (K w.params).In h)
    (fn : ∀ (w : World) (mg mb : Str → Option Value) (mean : ExcName → Option Value) (fa : Addr) (h : Heap), YP w h → Top q (PySem.W.looseW q loose) mean mg mb h → (K w.params).In h → mg d.name = some (.ref fa) →
      (∀ p ∈ cs (K w.params), PySem.W.CodeHd h p.1 p.2.1 ∧ h.get? p.2.1 = some (tObj #[])) ∧ (∀ p ∈ cs (K w.params), (K w.params).lookup p.2.1 = none) ∧ (tAd (cs (K w.params))).Nodup ∧
      ∃ fd : FuncData, (∀ (s : Shared) (u : Value), BindsTo s fd ⟨[u], []⟩ [(x, u)]) ∧
        ∀ base : Heap, (K w.params).In base → base.Ns mainGlobals mg → (∀ p ∈ cs (K w.params), TabB base mg p.1 p.2.1) → FnG l.prog w (K w.params) mg base CX0 k fa fd [x] (SpD (K w.params) (F (K w.params))))
    (due : ∀ (w : World) (ns : List Int), ns.length ≤ n → (∀ z ∈ ns, Builtin.Int.intBits z ≤ 1048576) → F (K w.params) [Ls (ns.map .int)] (tMS (cs (K w.params))) fun d _ => d = B true) :
    PySem.W.WalkO q loose XP YP l.row.toRowW d [] (fun f vs => PySem.call f vs) :=
  walk_topY (F := fun w => F (K w.params)) hn hn2 hdf hr hY fn due
namespace K15
local macro_rules | `(tactic| walk_at "sz") => `(tactic| first | assumption | omega | decide | (simp only [List.length_append, List.length_map, List.length_zipIdx, List.length_cons, List.length_nil, List.length_replicate, List.length_range, List.length_zip, List.length_take, List.length_drop]; omega) | (simp; omega) | (simp; done))
local macro_rules | `(tactic| walk_at "bd") => `(tactic| first | exact bd_add | exact bd_sub | exact bd_mul (by omega) | exact bd_mod (by omega) | exact bd_mod (by decide +kernel) | exact bd_pow (by omega) | exact bd_powX (by decide +kernel) | exact bd_div (by omega) | exact bd_addS (by walk_at "sz") | exact bd_mulS (by walk_at "sz") | exact bd_catL (by walk_at "sz"))
local macro_rules | `(tactic| walk_at "cd") => `(tactic| first | exact cd_lt | exact cd_le | exact cd_gt | exact cd_ge | exact cd_eq | exact cd_ne | exact cd_isN | exact cd_notN | exact cd_eqS | exact cd_neS | exact cd_ltS | exact cd_inS | exact cd_notinS | exact cd_inTs (Rm.mono (by assumption) (by decide)) (by assumption) (by assumption) | exact cd_notinTs | exact cd_eqT | exact cd_neT | exact cd_notinI (Rm.mono (by assumption) (by decide)))
local macro_rules | `(tactic| walk_at "ca") => `(tactic| first | exact ca_isiD (by simp) | exact ca_lenS (by walk_at "sz") | exact ca_lenL | exact ca_lenT | exact ca_allm rfl | exact ca_int | exact ca_intB | exact ca_abs | exact ca_max2 rfl | exact ca_min2 rfl | exact ca_sum rfl | exact ca_tupL | exact ca_listL | exact ca_listT | exact ca_maxS rfl | exact ca_listS rfl (by walk_at "sz"))
local macro_rules | `(tactic| walk_at "sl") => `(tactic| first | exact sl_S (by walk_at "sz") | exact sl_L | exact sl_T)
local macro_rules | `(tactic| walk_at "rg") => `(tactic| omega)
local macro_rules | `(tactic| walk_at "asc") => `(tactic| first | assumption | exact HexL.asc (by assumption))
local macro_rules | `(tactic| walk_at "sd") => `(tactic| first | exact sd_tup (by rfl) | exact sd_lst (by rfl) | exact sd_tup (at_nn (by decide) (by rfl)) | exact sd_lst (at_nn (by decide) (by rfl)))
local macro_rules | `(tactic| walk_at "call _law_cells") => `(tactic| exact .mk (by omega))
inductive F_law (cs : TabL) : FT
  | mk {ns : List Int} {Pp : SD → MS → Prop} (hl : ns.length ≤ 63) (h : Pp (B true) (tMS cs)) : F_law cs [Ls (ns.map .int)] (tMS cs) Pp
section
variable {P : Program} {w : World} {K : PySem.W.Frag} {mg : Str → Option Value} {base : Heap}
theorem ok_law (T : Tx P K mg) (tb__law_are_sizes_right : LamX.TabB base mg T.q__law_are_sizes_right T.t__law_are_sizes_right) (tb__law_is_fault_right : LamX.TabB base mg T.q__law_is_fault_right T.t__law_is_fault_right) (tb__law_right : LamX.TabB base mg T.q__law_right T.t__law_right) : FnG P w K mg base CX0 32 T.a_law T.d_law ["script"] (SpD K (F_law [(T.q__law_are_sizes_right, T.t__law_are_sizes_right, "_law_are_sizes_right.<locals>.<lambda>"), (T.q__law_is_fault_right, T.t__law_is_fault_right, "_law_is_fault_right.<locals>.<lambda>"), (T.q__law_right, T.t__law_right, "_law_right.<locals>.<lambda>")])) := by
  refine fnD_okA (W9.Fun.toA T.F_law) sc_law (fun xs m Pp h => by cases h <;> rfl) (fun cdv A outer s H E hcd rm xs m Pp hF => ?_)
  cases hF with | @mk ns Pp hl h =>
  refine wss_one (ws_ret (we_callB (wa_cons (we_lcI (fun i acc m' => acc = List.replicate i (PyData.bool true) ∧ m' = tMS [(T.q__law_are_sizes_right, T.t__law_are_sizes_right, "_law_are_sizes_right.<locals>.<lambda>"), (T.q__law_is_fault_right, T.t__law_is_fault_right, "_law_is_fault_right.<locals>.<lambda>"), (T.q__law_right, T.t__law_right, "_law_right.<locals>.<lambda>")]) [("place", 1)] rfl sc_law.nd
    (EI.to (ei_lst (eg_call (ok__law_cells T) (rm.mono (by decide)) T.m__law_cells T.F__law_cells.kp T.b__law_cells (ea_cons (ee_var (i := 0) rfl) (ea_cons ee_int ea_nil)) (by walk_at "call _law_cells"))) ⟨by decide, ⟨rfl, rfl⟩, ?_, ?_⟩)
    (fun _ _ _ _ _ _ _ _ _ p => wg_name p sc_law.nd) (blkOk_by (by rfl)))) T.m_all bo_all))
  · rintro i y acc m' hy hi ⟨rfl, rfl⟩ s H Ce cl fp
    obtain ⟨d, hd, rfl⟩ := map_get hy
    obtain rfl : d = .int ((0 : Nat) : Int) := by
      have hi1 : i < 1 := (List.getElem?_eq_some_iff.mp hd).1
      obtain rfl : i = 0 := by omega
      exact (Option.some.inj hd).symm
    refine WE.sub (wg_call (ok__law_right T tb__law_are_sizes_right tb__law_is_fault_right tb__law_right) (rm.mono (by decide)) T.m__law_right T.F__law_right.kp T.b__law_right (wa_cons (wg_call (ok__law_pot T) (rm.mono (by decide)) T.m__law_pot T.F__law_pot.kp T.b__law_pot (EA.to (ea_cons (ee_var (i := 0) rfl) (ea_cons (ee_var (i := 1) rfl) ea_nil)) ⟨[], _, rfl, .mk hl (by omega) fun p a b hpf ha hb => wa_nil ⟨[], _, rfl, .mk ha hb (by decide) hpf List.mem_cons_self (List.mem_cons_of_mem _ List.mem_cons_self) (List.mem_cons_of_mem _ (List.mem_cons_of_mem _ List.mem_cons_self)) fun m2 => ⟨tMS [(T.q__law_are_sizes_right, T.t__law_are_sizes_right, "_law_are_sizes_right.<locals>.<lambda>"), (T.q__law_is_fault_right, T.t__law_is_fault_right, "_law_is_fault_right.<locals>.<lambda>"), (T.q__law_right, T.t__law_right, "_law_right.<locals>.<lambda>")], List.sublist_append_left _ _, _, rfl, ?_, rfl⟩⟩⟩))))
    rw [List.replicate_succ']
  · rintro acc m' hi ⟨rfl, rfl⟩
    refine wa_nil ⟨_, ca_allT, h⟩
end
end K15
end W9
namespace W9
namespace K15
open PySem PySem.Spec PyProof.Rows L2 PySem.HandSPX
theorem all_mk {l : PySem.W.OpenLaw} {w : World} {K : PySem.W.Frag} {h : Heap} {mg : Str → Option Value} {fa : Addr} (X : K.In h) (G : h.Ns mainGlobals mg) (hfa : mg "law" = some (.ref fa)) {ts : List Addr} (hts : ∀ P ∈ ts, h.get? P = some (tObj #[]))
    {oC0 : Addr}
    {f1 : Addr} {od1 an1 : Option Addr} {sl1 : Array (Option Value)} {oc1 kV1 dc1 pm1 cd1 ct1 : Value}
    {f2 : Addr} {od2 an2 : Option Addr} {sl2 : Array (Option Value)} {oc2 kV2 dc2 pm2 cd2 ct2 : Value}
    {f3 : Addr} {od3 an3 : Option Addr} {sl3 : Array (Option Value)} {oc3 kV3 dc3 pm3 cd3 ct3 : Value}
    {f4 : Addr} {od4 an4 : Option Addr} {sl4 : Array (Option Value)} {oc4 kV4 dc4 pm4 cd4 ct4 : Value}
    {f5 : Addr} {od5 an5 : Option Addr} {sl5 : Array (Option Value)} {oc5 kV5 dc5 pm5 cd5 ct5 : Value}
    {f6 : Addr} {od6 an6 : Option Addr} {sl6 : Array (Option Value)} {oc6 kV6 dc6 pm6 cd6 ct6 : Value}
    {f7 : Addr} {od7 an7 : Option Addr} {sl7 : Array (Option Value)} {oc7 kV7 dc7 pm7 cd7 ct7 : Value}
    {f8 : Addr} {od8 an8 : Option Addr} {sl8 : Array (Option Value)} {oc8 kV8 dc8 pm8 cd8 ct8 : Value}
    {f9 : Addr} {od9 an9 : Option Addr} {sl9 : Array (Option Value)} {oc9 kV9 dc9 pm9 cd9 ct9 : Value}
    {f10 : Addr} {od10 an10 : Option Addr} {sl10 : Array (Option Value)} {oc10 kV10 dc10 pm10 cd10 ct10 : Value}
    {dT10 : Addr} {dn10 : Nat} {doc10 : Value} {dod10 : Option Addr} {dsl10 : Array (Option Value)}
    {ea10 : Addr}
    {f11 : Addr} {od11 an11 : Option Addr} {sl11 : Array (Option Value)} {oc11 kV11 dc11 pm11 cd11 ct11 : Value}
    {p11 : Addr} {re11 : List Value}
    {f12 : Addr} {od12 an12 : Option Addr} {sl12 : Array (Option Value)} {oc12 kV12 dc12 pm12 cd12 ct12 : Value}
    {p12 : Addr} {re12 : List Value}
    {f13 : Addr} {od13 an13 : Option Addr} {sl13 : Array (Option Value)} {oc13 kV13 dc13 pm13 cd13 ct13 : Value}
    {p13 : Addr} {re13 : List Value}
    {f14 : Addr} {od14 an14 : Option Addr} {sl14 : Array (Option Value)} {oc14 kV14 dc14 pm14 cd14 ct14 : Value}
    {p14 : Addr} {re14 : List Value}
    {f15 : Addr} {od15 an15 : Option Addr} {sl15 : Array (Option Value)} {oc15 kV15 dc15 pm15 cd15 ct15 : Value}
    {p15 : Addr} {re15 : List Value}
    {f16 : Addr} {od16 an16 : Option Addr} {sl16 : Array (Option Value)} {oc16 kV16 dc16 pm16 cd16 ct16 : Value}
    {p16 : Addr} {re16 : List Value}
    {f17 : Addr} {od17 an17 : Option Addr} {sl17 : Array (Option Value)} {oc17 kV17 dc17 pm17 cd17 ct17 : Value}
    {p17 : Addr} {re17 : List Value}
    {f18 : Addr} {od18 an18 : Option Addr} {sl18 : Array (Option Value)} {oc18 kV18 dc18 pm18 cd18 ct18 : Value}
    {f19 : Addr} {od19 an19 : Option Addr} {sl19 : Array (Option Value)} {oc19 kV19 dc19 pm19 cd19 ct19 : Value}
    {f20 : Addr} {od20 an20 : Option Addr} {sl20 : Array (Option Value)} {oc20 kV20 dc20 pm20 cd20 ct20 : Value}
    {f21 : Addr} {od21 an21 : Option Addr} {sl21 : Array (Option Value)} {oc21 kV21 dc21 pm21 cd21 ct21 : Value}
    {f22 : Addr} {od22 an22 : Option Addr} {sl22 : Array (Option Value)} {oc22 kV22 dc22 pm22 cd22 ct22 : Value}
    {f23 : Addr} {od23 an23 : Option Addr} {sl23 : Array (Option Value)} {oc23 kV23 dc23 pm23 cd23 ct23 : Value}
    {f24 : Addr} {od24 an24 : Option Addr} {sl24 : Array (Option Value)} {oc24 kV24 dc24 pm24 cd24 ct24 : Value}
    {f25 : Addr} {od25 an25 : Option Addr} {sl25 : Array (Option Value)} {oc25 kV25 dc25 pm25 cd25 ct25 : Value}
    {f26 : Addr} {od26 an26 : Option Addr} {sl26 : Array (Option Value)} {oc26 kV26 dc26 pm26 cd26 ct26 : Value}
    {f27 : Addr} {od27 an27 : Option Addr} {sl27 : Array (Option Value)} {oc27 kV27 dc27 pm27 cd27 ct27 : Value}
    {f28 : Addr} {od28 an28 : Option Addr} {sl28 : Array (Option Value)} {oc28 kV28 dc28 pm28 cd28 ct28 : Value}
    {f29 : Addr} {od29 an29 : Option Addr} {sl29 : Array (Option Value)} {oc29 kV29 dc29 pm29 cd29 ct29 : Value}
    {f30 : Addr} {od30 an30 : Option Addr} {sl30 : Array (Option Value)} {oc30 kV30 dc30 pm30 cd30 ct30 : Value}
    {f31 : Addr} {od31 an31 : Option Addr} {sl31 : Array (Option Value)} {oc31 kV31 dc31 pm31 cd31 ct31 : Value}
    {f32 : Addr} {od32 an32 : Option Addr} {sl32 : Array (Option Value)} {oc32 kV32 dc32 pm32 cd32 ct32 : Value}
    {f33 : Addr} {od33 an33 : Option Addr} {sl33 : Array (Option Value)} {oc33 kV33 dc33 pm33 cd33 ct33 : Value}
    {f34 : Addr} {od34 an34 : Option Addr} {sl34 : Array (Option Value)} {oc34 kV34 dc34 pm34 cd34 ct34 : Value}
    {f35 : Addr} {od35 an35 : Option Addr} {sl35 : Array (Option Value)} {oc35 kV35 dc35 pm35 cd35 ct35 : Value}
    {f36 : Addr} {od36 an36 : Option Addr} {sl36 : Array (Option Value)} {oc36 kV36 dc36 pm36 cd36 ct36 : Value}
    {f37 : Addr} {od37 an37 : Option Addr} {sl37 : Array (Option Value)} {oc37 kV37 dc37 pm37 cd37 ct37 : Value}
    {f38 : Addr} {od38 an38 : Option Addr} {sl38 : Array (Option Value)} {oc38 kV38 dc38 pm38 cd38 ct38 : Value}
    {f39 : Addr} {od39 an39 : Option Addr} {sl39 : Array (Option Value)} {oc39 kV39 dc39 pm39 cd39 ct39 : Value}
    {f40 : Addr} {od40 an40 : Option Addr} {sl40 : Array (Option Value)} {oc40 kV40 dc40 pm40 cd40 ct40 : Value}
    {f41 : Addr} {od41 an41 : Option Addr} {sl41 : Array (Option Value)} {oc41 kV41 dc41 pm41 cd41 ct41 : Value}
    {f42 : Addr} {od42 an42 : Option Addr} {sl42 : Array (Option Value)} {oc42 kV42 dc42 pm42 cd42 ct42 : Value}
    {f43 : Addr} {od43 an43 : Option Addr} {sl43 : Array (Option Value)} {oc43 kV43 dc43 pm43 cd43 ct43 : Value}
    {f44 : Addr} {od44 an44 : Option Addr} {sl44 : Array (Option Value)} {oc44 kV44 dc44 pm44 cd44 ct44 : Value}
    {f45 : Addr} {od45 an45 : Option Addr} {sl45 : Array (Option Value)} {oc45 kV45 dc45 pm45 cd45 ct45 : Value}
    {f46 : Addr} {od46 an46 : Option Addr} {sl46 : Array (Option Value)} {oc46 kV46 dc46 pm46 cd46 ct46 : Value}
    {f47 : Addr} {od47 an47 : Option Addr} {sl47 : Array (Option Value)} {oc47 kV47 dc47 pm47 cd47 ct47 : Value}
    {f48 : Addr} {od48 an48 : Option Addr} {sl48 : Array (Option Value)} {oc48 kV48 dc48 pm48 cd48 ct48 : Value}
    {f49 : Addr} {od49 an49 : Option Addr} {sl49 : Array (Option Value)} {oc49 kV49 dc49 pm49 cd49 ct49 : Value}
    {tq49 tt49 : Addr} {to49 : Option Addr} {tv49 : Array Value} {ts49 : Array (Option Value)}
    {f50 : Addr} {od50 an50 : Option Addr} {sl50 : Array (Option Value)} {oc50 kV50 dc50 pm50 cd50 ct50 : Value}
    {f51 : Addr} {od51 an51 : Option Addr} {sl51 : Array (Option Value)} {oc51 kV51 dc51 pm51 cd51 ct51 : Value}
    {f52 : Addr} {od52 an52 : Option Addr} {sl52 : Array (Option Value)} {oc52 kV52 dc52 pm52 cd52 ct52 : Value}
    {f53 : Addr} {od53 an53 : Option Addr} {sl53 : Array (Option Value)} {oc53 kV53 dc53 pm53 cd53 ct53 : Value}
    {tq53 tt53 : Addr} {to53 : Option Addr} {tv53 : Array Value} {ts53 : Array (Option Value)}
    {f54 : Addr} {od54 an54 : Option Addr} {sl54 : Array (Option Value)} {oc54 kV54 dc54 pm54 cd54 ct54 : Value}
    {tq54 tt54 : Addr} {to54 : Option Addr} {tv54 : Array Value} {ts54 : Array (Option Value)}
    {f55 : Addr} {od55 an55 : Option Addr} {sl55 : Array (Option Value)} {oc55 kV55 dc55 pm55 cd55 ct55 : Value}
    {aD fI cc cda : Addr} {iod ian clo cdo : Option Addr} {isl csl dsl : Array (Option Value)} {ioc idc ipm ict clc cdc : Value} {dvs : Array Value} {fil : Str} {ftk : Tok}
    {eC0 eN0 : Addr} {en0 eq0 : Str} {eb0 em0 es0 : List Value} {esn0 : List Str} {eab0 : Bool} {eco0 : Option Bool} {edd0 : Option Addr} {ex0_0 ex1_0 ex2_0 ex3_0 ex5_0 : Option Value}
    {eC1 eN1 : Addr} {en1 eq1 : Str} {eb1 em1 es1 : List Value} {esn1 : List Str} {eab1 : Bool} {eco1 : Option Bool} {edd1 : Option Addr} {ex0_1 ex1_1 ex2_1 ex3_1 ex5_1 : Option Value}
    {eC2 eN2 : Addr} {en2 eq2 : Str} {eb2 em2 es2 : List Value} {esn2 : List Str} {eab2 : Bool} {eco2 : Option Bool} {edd2 : Option Addr} {ex0_2 ex1_2 ex2_2 ex3_2 ex5_2 : Option Value}
    {eC3 eN3 : Addr} {en3 eq3 : Str} {eb3 em3 es3 : List Value} {esn3 : List Str} {eab3 : Bool} {eco3 : Option Bool} {edd3 : Option Addr} {ex0_3 ex1_3 ex2_3 ex3_3 ex5_3 : Option Value}
    {eC4 eN4 : Addr} {en4 eq4 : Str} {eb4 em4 es4 : List Value} {esn4 : List Str} {eab4 : Bool} {eco4 : Option Bool} {edd4 : Option Addr} {ex0_4 ex1_4 ex2_4 ex3_4 ex5_4 : Option Value}
    {eC5 eN5 : Addr} {en5 eq5 : Str} {eb5 em5 es5 : List Value} {esn5 : List Str} {eab5 : Bool} {eco5 : Option Bool} {edd5 : Option Addr} {ex0_5 ex1_5 ex2_5 ex3_5 ex5_5 : Option Value}
    {eC6 eN6 : Addr} {en6 eq6 : Str} {eb6 em6 es6 : List Value} {esn6 : List Str} {eab6 : Bool} {eco6 : Option Bool} {edd6 : Option Addr} {ex0_6 ex1_6 ex2_6 ex3_6 ex5_6 : Option Value}
    {eC7 eN7 : Addr} {en7 eq7 : Str} {eb7 em7 es7 : List Value} {esn7 : List Str} {eab7 : Bool} {eco7 : Option Bool} {edd7 : Option Addr} {ex0_7 ex1_7 ex2_7 ex3_7 ex5_7 : Option Value}
    {eC8 eN8 : Addr} {en8 eq8 : Str} {eb8 em8 es8 : List Value} {esn8 : List Str} {eab8 : Bool} {eco8 : Option Bool} {edd8 : Option Addr} {ex0_8 ex1_8 ex2_8 ex3_8 ex5_8 : Option Value}
    {eC9 eN9 : Addr} {en9 eq9 : Str} {eb9 em9 es9 : List Value} {esn9 : List Str} {eab9 : Bool} {eco9 : Option Bool} {edd9 : Option Addr} {ex0_9 ex1_9 ex2_9 ex3_9 ex5_9 : Option Value}
    {psoC0_0 : Addr}
    {psoC0_1 : Addr}
    {psoC0_2 : Addr}
    {psoC0_3 : Addr}
    {psoC0_4 : Addr}
    {psoC0_5 : Addr}
    {psoC0_6 : Addr}
    {psoC0_7 : Addr}
    {psoC0_8 : Addr}
    {psoC0_9 : Addr}
    {t75 : Tok} {x75 : Str}
    {t76 : Tok}
    {t77 : Tok}
    {t78 : Tok}
    {t79 : Tok}
    {t80 : Tok}
    {t81 : Tok} {x81 : Str}
    {t82 : Tok} {x82 : Str}
    {t83 : Tok} {x83 : Str}
    {t84 : Tok}
    (oc0 : PySem.W.nsIn K mainGlobals "Chip" = some (some (.ref oC0)))
    (a1 : PySem.W.nsIn K mainGlobals "is_whole" = some (some (.ref f1)))
    (l1 : K.lookup f1 = some ⟨oc1, od1, .func (PySem.W.fnOf "is_whole" "is_whole" (defArgs (topS 4)) (defBody (topS 4)) (defScope (topS 4)) .none kV1 dc1 pm1 an1 cd1 ct1), sl1⟩)
    (c1 : PySem.W.codeIn K cd1 "is_whole" = true)
    (k1 : PySem.W.keepIn K (.ref f1) = true)
    (a2 : PySem.W.nsIn K mainGlobals "is_integer" = some (some (.ref f2)))
    (l2 : K.lookup f2 = some ⟨oc2, od2, .func (PySem.W.fnOf "is_integer" "is_integer" (defArgs (topS 5)) (defBody (topS 5)) (defScope (topS 5)) .none kV2 dc2 pm2 an2 cd2 ct2), sl2⟩)
    (c2 : PySem.W.codeIn K cd2 "is_integer" = true)
    (k2 : PySem.W.keepIn K (.ref f2) = true)
    (a3 : PySem.W.nsIn K mainGlobals "is_tuple" = some (some (.ref f3)))
    (l3 : K.lookup f3 = some ⟨oc3, od3, .func (PySem.W.fnOf "is_tuple" "is_tuple" (defArgs (topS 6)) (defBody (topS 6)) (defScope (topS 6)) .none kV3 dc3 pm3 an3 cd3 ct3), sl3⟩)
    (c3 : PySem.W.codeIn K cd3 "is_tuple" = true)
    (k3 : PySem.W.keepIn K (.ref f3) = true)
    (a4 : PySem.W.nsIn K mainGlobals "is_string" = some (some (.ref f4)))
    (l4 : K.lookup f4 = some ⟨oc4, od4, .func (PySem.W.fnOf "is_string" "is_string" (defArgs (topS 7)) (defBody (topS 7)) (defScope (topS 7)) .none kV4 dc4 pm4 an4 cd4 ct4), sl4⟩)
    (c4 : PySem.W.codeIn K cd4 "is_string" = true)
    (k4 : PySem.W.keepIn K (.ref f4) = true)
    (a5 : PySem.W.nsIn K mainGlobals "are_cells" = some (some (.ref f5)))
    (l5 : K.lookup f5 = some ⟨oc5, od5, .func (PySem.W.fnOf "are_cells" "are_cells" (defArgs (topS 8)) (defBody (topS 8)) (defScope (topS 8)) .none kV5 dc5 pm5 an5 cd5 ct5), sl5⟩)
    (c5 : PySem.W.codeIn K cd5 "are_cells" = true)
    (k5 : PySem.W.keepIn K (.ref f5) = true)
    (a6 : PySem.W.nsIn K mainGlobals "is_page" = some (some (.ref f6)))
    (l6 : K.lookup f6 = some ⟨oc6, od6, .func (PySem.W.fnOf "is_page" "is_page" (defArgs (topS 9)) (defBody (topS 9)) (defScope (topS 9)) .none kV6 dc6 pm6 an6 cd6 ct6), sl6⟩)
    (c6 : PySem.W.codeIn K cd6 "is_page" = true)
    (k6 : PySem.W.keepIn K (.ref f6) = true)
    (a7 : PySem.W.nsIn K mainGlobals "is_fault" = some (some (.ref f7)))
    (l7 : K.lookup f7 = some ⟨oc7, od7, .func (PySem.W.fnOf "is_fault" "is_fault" (defArgs (topS 31)) (defBody (topS 31)) (defScope (topS 31)) .none kV7 dc7 pm7 an7 cd7 ct7), sl7⟩)
    (c7 : PySem.W.codeIn K cd7 "is_fault" = true)
    (k7 : PySem.W.keepIn K (.ref f7) = true)
    (a8 : PySem.W.nsIn K mainGlobals "are_faults" = some (some (.ref f8)))
    (l8 : K.lookup f8 = some ⟨oc8, od8, .func (PySem.W.fnOf "are_faults" "are_faults" (defArgs (topS 32)) (defBody (topS 32)) (defScope (topS 32)) .none kV8 dc8 pm8 an8 cd8 ct8), sl8⟩)
    (c8 : PySem.W.codeIn K cd8 "are_faults" = true)
    (k8 : PySem.W.keepIn K (.ref f8) = true)
    (a9 : PySem.W.nsIn K mainGlobals "torn" = some (some (.ref f9)))
    (l9 : K.lookup f9 = some ⟨oc9, od9, .func (PySem.W.fnOf "torn" "torn" (defArgs (topS 33)) (defBody (topS 33)) (defScope (topS 33)) .none kV9 dc9 pm9 an9 cd9 ct9), sl9⟩)
    (c9 : PySem.W.codeIn K cd9 "torn" = true)
    (k9 : PySem.W.keepIn K (.ref f9) = true)
    (a10 : PySem.W.findIn K (.ref oC0) "__init__" = some (some (.ref f10)))
    (i10 : PySem.W.isFn K (.ref f10) = true)
    (l10 : K.lookup f10 = some ⟨oc10, od10, .func (PySem.W.fnOf "__init__" "Chip.__init__" (defArgs (inClass (topS 34) 1)) (defBody (inClass (topS 34) 1)) (defScope (inClass (topS 34) 1)) (.ref dT10) kV10 dc10 pm10 an10 cd10 ct10), sl10⟩)
    (c10 : PySem.W.codeIn K cd10 "Chip.__init__" = true)
    (k10 : PySem.W.keepIn K (.ref f10) = true)
    (e10 : K.lookup dT10 = some ⟨doc10, dod10, .seq #[.ref ea10] dn10, dsl10⟩)
    (mk10 : PySem.W.makesIn K oC0 = true)
    (mc10 : PySem.W.keepIn K (.ref oC0) = true)
    (a11 : PySem.W.findIn K (.ref oC0) "blocks" = some (some (.ref p11)))
    (b11 : PySem.W.specialIn K (.ref p11) "__get__" = some (some (.builtin "property.__get__")))
    (c_11 : PySem.W.takesIn K (.ref p11) = some true)
    (d11 : PySem.W.recIn K p11 "property" = some (.ref f11 :: re11))
    (l11 : K.lookup f11 = some ⟨oc11, od11, .func (PySem.W.fnOf "blocks" "Chip.blocks" (defArgs (inClass (topS 34) 2)) (defBody (inClass (topS 34) 2)) (defScope (inClass (topS 34) 2)) .none kV11 dc11 pm11 an11 cd11 ct11), sl11⟩)
    (c11 : PySem.W.codeIn K cd11 "Chip.blocks" = true)
    (k11 : PySem.W.keepIn K (.ref f11) = true)
    (a12 : PySem.W.findIn K (.ref oC0) "pages" = some (some (.ref p12)))
    (b12 : PySem.W.specialIn K (.ref p12) "__get__" = some (some (.builtin "property.__get__")))
    (c_12 : PySem.W.takesIn K (.ref p12) = some true)
    (d12 : PySem.W.recIn K p12 "property" = some (.ref f12 :: re12))
    (l12 : K.lookup f12 = some ⟨oc12, od12, .func (PySem.W.fnOf "pages" "Chip.pages" (defArgs (inClass (topS 34) 3)) (defBody (inClass (topS 34) 3)) (defScope (inClass (topS 34) 3)) .none kV12 dc12 pm12 an12 cd12 ct12), sl12⟩)
    (c12 : PySem.W.codeIn K cd12 "Chip.pages" = true)
    (k12 : PySem.W.keepIn K (.ref f12) = true)
    (a13 : PySem.W.findIn K (.ref oC0) "wear" = some (some (.ref p13)))
    (b13 : PySem.W.specialIn K (.ref p13) "__get__" = some (some (.builtin "property.__get__")))
    (c_13 : PySem.W.takesIn K (.ref p13) = some true)
    (d13 : PySem.W.recIn K p13 "property" = some (.ref f13 :: re13))
    (l13 : K.lookup f13 = some ⟨oc13, od13, .func (PySem.W.fnOf "wear" "Chip.wear" (defArgs (inClass (topS 34) 4)) (defBody (inClass (topS 34) 4)) (defScope (inClass (topS 34) 4)) .none kV13 dc13 pm13 an13 cd13 ct13), sl13⟩)
    (c13 : PySem.W.codeIn K cd13 "Chip.wear" = true)
    (k13 : PySem.W.keepIn K (.ref f13) = true)
    (a14 : PySem.W.findIn K (.ref oC0) "bad" = some (some (.ref p14)))
    (b14 : PySem.W.specialIn K (.ref p14) "__get__" = some (some (.builtin "property.__get__")))
    (c_14 : PySem.W.takesIn K (.ref p14) = some true)
    (d14 : PySem.W.recIn K p14 "property" = some (.ref f14 :: re14))
    (l14 : K.lookup f14 = some ⟨oc14, od14, .func (PySem.W.fnOf "bad" "Chip.bad" (defArgs (inClass (topS 34) 5)) (defBody (inClass (topS 34) 5)) (defScope (inClass (topS 34) 5)) .none kV14 dc14 pm14 an14 cd14 ct14), sl14⟩)
    (c14 : PySem.W.codeIn K cd14 "Chip.bad" = true)
    (k14 : PySem.W.keepIn K (.ref f14) = true)
    (a15 : PySem.W.findIn K (.ref oC0) "done" = some (some (.ref p15)))
    (b15 : PySem.W.specialIn K (.ref p15) "__get__" = some (some (.builtin "property.__get__")))
    (c_15 : PySem.W.takesIn K (.ref p15) = some true)
    (d15 : PySem.W.recIn K p15 "property" = some (.ref f15 :: re15))
    (l15 : K.lookup f15 = some ⟨oc15, od15, .func (PySem.W.fnOf "done" "Chip.done" (defArgs (inClass (topS 34) 6)) (defBody (inClass (topS 34) 6)) (defScope (inClass (topS 34) 6)) .none kV15 dc15 pm15 an15 cd15 ct15), sl15⟩)
    (c15 : PySem.W.codeIn K cd15 "Chip.done" = true)
    (k15 : PySem.W.keepIn K (.ref f15) = true)
    (a16 : PySem.W.findIn K (.ref oC0) "cuts" = some (some (.ref p16)))
    (b16 : PySem.W.specialIn K (.ref p16) "__get__" = some (some (.builtin "property.__get__")))
    (c_16 : PySem.W.takesIn K (.ref p16) = some true)
    (d16 : PySem.W.recIn K p16 "property" = some (.ref f16 :: re16))
    (l16 : K.lookup f16 = some ⟨oc16, od16, .func (PySem.W.fnOf "cuts" "Chip.cuts" (defArgs (inClass (topS 34) 7)) (defBody (inClass (topS 34) 7)) (defScope (inClass (topS 34) 7)) .none kV16 dc16 pm16 an16 cd16 ct16), sl16⟩)
    (c16 : PySem.W.codeIn K cd16 "Chip.cuts" = true)
    (k16 : PySem.W.keepIn K (.ref f16) = true)
    (a17 : PySem.W.findIn K (.ref oC0) "is_on" = some (some (.ref p17)))
    (b17 : PySem.W.specialIn K (.ref p17) "__get__" = some (some (.builtin "property.__get__")))
    (c_17 : PySem.W.takesIn K (.ref p17) = some true)
    (d17 : PySem.W.recIn K p17 "property" = some (.ref f17 :: re17))
    (l17 : K.lookup f17 = some ⟨oc17, od17, .func (PySem.W.fnOf "is_on" "Chip.is_on" (defArgs (inClass (topS 34) 8)) (defBody (inClass (topS 34) 8)) (defScope (inClass (topS 34) 8)) .none kV17 dc17 pm17 an17 cd17 ct17), sl17⟩)
    (c17 : PySem.W.codeIn K cd17 "Chip.is_on" = true)
    (k17 : PySem.W.keepIn K (.ref f17) = true)
    (a18 : PySem.W.findIn K (.ref oC0) "__eq__" = some (some (.ref f18)))
    (i18 : PySem.W.isFn K (.ref f18) = true)
    (l18 : K.lookup f18 = some ⟨oc18, od18, .func (PySem.W.fnOf "__eq__" "Chip.__eq__" (defArgs (inClass (topS 34) 9)) (defBody (inClass (topS 34) 9)) (defScope (inClass (topS 34) 9)) .none kV18 dc18 pm18 an18 cd18 ct18), sl18⟩)
    (c18 : PySem.W.codeIn K cd18 "Chip.__eq__" = true)
    (k18 : PySem.W.keepIn K (.ref f18) = true)
    (a19 : PySem.W.findIn K (.ref oC0) "check_page" = some (some (.ref f19)))
    (i19 : PySem.W.isFn K (.ref f19) = true)
    (l19 : K.lookup f19 = some ⟨oc19, od19, .func (PySem.W.fnOf "check_page" "Chip.check_page" (defArgs (inClass (topS 34) 11)) (defBody (inClass (topS 34) 11)) (defScope (inClass (topS 34) 11)) .none kV19 dc19 pm19 an19 cd19 ct19), sl19⟩)
    (c19 : PySem.W.codeIn K cd19 "Chip.check_page" = true)
    (k19 : PySem.W.keepIn K (.ref f19) = true)
    (a20 : PySem.W.findIn K (.ref oC0) "read" = some (some (.ref f20)))
    (i20 : PySem.W.isFn K (.ref f20) = true)
    (l20 : K.lookup f20 = some ⟨oc20, od20, .func (PySem.W.fnOf "read" "Chip.read" (defArgs (inClass (topS 34) 12)) (defBody (inClass (topS 34) 12)) (defScope (inClass (topS 34) 12)) .none kV20 dc20 pm20 an20 cd20 ct20), sl20⟩)
    (c20 : PySem.W.codeIn K cd20 "Chip.read" = true)
    (k20 : PySem.W.keepIn K (.ref f20) = true)
    (a21 : PySem.W.findIn K (.ref oC0) "begin_deed" = some (some (.ref f21)))
    (i21 : PySem.W.isFn K (.ref f21) = true)
    (l21 : K.lookup f21 = some ⟨oc21, od21, .func (PySem.W.fnOf "begin_deed" "Chip.begin_deed" (defArgs (inClass (topS 34) 13)) (defBody (inClass (topS 34) 13)) (defScope (inClass (topS 34) 13)) .none kV21 dc21 pm21 an21 cd21 ct21), sl21⟩)
    (c21 : PySem.W.codeIn K cd21 "Chip.begin_deed" = true)
    (k21 : PySem.W.keepIn K (.ref f21) = true)
    (a22 : PySem.W.findIn K (.ref oC0) "end_deed" = some (some (.ref f22)))
    (i22 : PySem.W.isFn K (.ref f22) = true)
    (l22 : K.lookup f22 = some ⟨oc22, od22, .func (PySem.W.fnOf "end_deed" "Chip.end_deed" (defArgs (inClass (topS 34) 14)) (defBody (inClass (topS 34) 14)) (defScope (inClass (topS 34) 14)) .none kV22 dc22 pm22 an22 cd22 ct22), sl22⟩)
    (c22 : PySem.W.codeIn K cd22 "Chip.end_deed" = true)
    (k22 : PySem.W.keepIn K (.ref f22) = true)
    (a23 : PySem.W.findIn K (.ref oC0) "write" = some (some (.ref f23)))
    (i23 : PySem.W.isFn K (.ref f23) = true)
    (l23 : K.lookup f23 = some ⟨oc23, od23, .func (PySem.W.fnOf "write" "Chip.write" (defArgs (inClass (topS 34) 15)) (defBody (inClass (topS 34) 15)) (defScope (inClass (topS 34) 15)) .none kV23 dc23 pm23 an23 cd23 ct23), sl23⟩)
    (c23 : PySem.W.codeIn K cd23 "Chip.write" = true)
    (k23 : PySem.W.keepIn K (.ref f23) = true)
    (a24 : PySem.W.findIn K (.ref oC0) "erase" = some (some (.ref f24)))
    (i24 : PySem.W.isFn K (.ref f24) = true)
    (l24 : K.lookup f24 = some ⟨oc24, od24, .func (PySem.W.fnOf "erase" "Chip.erase" (defArgs (inClass (topS 34) 16)) (defBody (inClass (topS 34) 16)) (defScope (inClass (topS 34) 16)) .none kV24 dc24 pm24 an24 cd24 ct24), sl24⟩)
    (c24 : PySem.W.codeIn K cd24 "Chip.erase" = true)
    (k24 : PySem.W.keepIn K (.ref f24) = true)
    (a25 : PySem.W.findIn K (.ref oC0) "fault" = some (some (.ref f25)))
    (i25 : PySem.W.isFn K (.ref f25) = true)
    (l25 : K.lookup f25 = some ⟨oc25, od25, .func (PySem.W.fnOf "fault" "Chip.fault" (defArgs (inClass (topS 34) 18)) (defBody (inClass (topS 34) 18)) (defScope (inClass (topS 34) 18)) .none kV25 dc25 pm25 an25 cd25 ct25), sl25⟩)
    (c25 : PySem.W.codeIn K cd25 "Chip.fault" = true)
    (k25 : PySem.W.keepIn K (.ref f25) = true)
    (a26 : PySem.W.findIn K (.ref oC0) "can_fade" = some (some (.ref f26)))
    (i26 : PySem.W.isFn K (.ref f26) = true)
    (l26 : K.lookup f26 = some ⟨oc26, od26, .func (PySem.W.fnOf "can_fade" "Chip.can_fade" (defArgs (inClass (topS 34) 19)) (defBody (inClass (topS 34) 19)) (defScope (inClass (topS 34) 19)) .none kV26 dc26 pm26 an26 cd26 ct26), sl26⟩)
    (c26 : PySem.W.codeIn K cd26 "Chip.can_fade" = true)
    (k26 : PySem.W.keepIn K (.ref f26) = true)
    (a27 : PySem.W.findIn K (.ref oC0) "fade" = some (some (.ref f27)))
    (i27 : PySem.W.isFn K (.ref f27) = true)
    (l27 : K.lookup f27 = some ⟨oc27, od27, .func (PySem.W.fnOf "fade" "Chip.fade" (defArgs (inClass (topS 34) 20)) (defBody (inClass (topS 34) 20)) (defScope (inClass (topS 34) 20)) .none kV27 dc27 pm27 an27 cd27 ct27), sl27⟩)
    (c27 : PySem.W.codeIn K cd27 "Chip.fade" = true)
    (k27 : PySem.W.keepIn K (.ref f27) = true)
    (a28 : PySem.W.findIn K (.ref oC0) "image" = some (some (.ref f28)))
    (i28 : PySem.W.isFn K (.ref f28) = true)
    (l28 : K.lookup f28 = some ⟨oc28, od28, .func (PySem.W.fnOf "image" "Chip.image" (defArgs (inClass (topS 34) 21)) (defBody (inClass (topS 34) 21)) (defScope (inClass (topS 34) 21)) .none kV28 dc28 pm28 an28 cd28 ct28), sl28⟩)
    (c28 : PySem.W.codeIn K cd28 "Chip.image" = true)
    (k28 : PySem.W.keepIn K (.ref f28) = true)
    (a29 : PySem.W.nsIn K mainGlobals "_law_pot" = some (some (.ref f29)))
    (l29 : K.lookup f29 = some ⟨oc29, od29, .func (PySem.W.fnOf "_law_pot" "_law_pot" (defArgs (topS 36)) (defBody (topS 36)) (defScope (topS 36)) .none kV29 dc29 pm29 an29 cd29 ct29), sl29⟩)
    (c29 : PySem.W.codeIn K cd29 "_law_pot" = true)
    (k29 : PySem.W.keepIn K (.ref f29) = true)
    (a30 : PySem.W.nsIn K mainGlobals "_law_take" = some (some (.ref f30)))
    (l30 : K.lookup f30 = some ⟨oc30, od30, .func (PySem.W.fnOf "_law_take" "_law_take" (defArgs (topS 37)) (defBody (topS 37)) (defScope (topS 37)) .none kV30 dc30 pm30 an30 cd30 ct30), sl30⟩)
    (c30 : PySem.W.codeIn K cd30 "_law_take" = true)
    (k30 : PySem.W.keepIn K (.ref f30) = true)
    (a31 : PySem.W.nsIn K mainGlobals "_law_of" = some (some (.ref f31)))
    (l31 : K.lookup f31 = some ⟨oc31, od31, .func (PySem.W.fnOf "_law_of" "_law_of" (defArgs (topS 38)) (defBody (topS 38)) (defScope (topS 38)) .none kV31 dc31 pm31 an31 cd31 ct31), sl31⟩)
    (c31 : PySem.W.codeIn K cd31 "_law_of" = true)
    (k31 : PySem.W.keepIn K (.ref f31) = true)
    (a32 : PySem.W.nsIn K mainGlobals "_law_cells" = some (some (.ref f32)))
    (l32 : K.lookup f32 = some ⟨oc32, od32, .func (PySem.W.fnOf "_law_cells" "_law_cells" (defArgs (topS 39)) (defBody (topS 39)) (defScope (topS 39)) .none kV32 dc32 pm32 an32 cd32 ct32), sl32⟩)
    (c32 : PySem.W.codeIn K cd32 "_law_cells" = true)
    (k32 : PySem.W.keepIn K (.ref f32) = true)
    (a33 : PySem.W.nsIn K mainGlobals "_law_heard" = some (some (.ref f33)))
    (l33 : K.lookup f33 = some ⟨oc33, od33, .func (PySem.W.fnOf "_law_heard" "_law_heard" (defArgs (topS 40)) (defBody (topS 40)) (defScope (topS 40)) .none kV33 dc33 pm33 an33 cd33 ct33), sl33⟩)
    (c33 : PySem.W.codeIn K cd33 "_law_heard" = true)
    (k33 : PySem.W.keepIn K (.ref f33) = true)
    (a34 : PySem.W.nsIn K mainGlobals "_law_is_int" = some (some (.ref f34)))
    (l34 : K.lookup f34 = some ⟨oc34, od34, .func (PySem.W.fnOf "_law_is_int" "_law_is_int" (defArgs (topS 41)) (defBody (topS 41)) (defScope (topS 41)) .none kV34 dc34 pm34 an34 cd34 ct34), sl34⟩)
    (c34 : PySem.W.codeIn K cd34 "_law_is_int" = true)
    (k34 : PySem.W.keepIn K (.ref f34) = true)
    (a35 : PySem.W.nsIn K mainGlobals "_law_chip_begun" = some (some (.ref f35)))
    (l35 : K.lookup f35 = some ⟨oc35, od35, .func (PySem.W.fnOf "_law_chip_begun" "_law_chip_begun" (defArgs (topS 42)) (defBody (topS 42)) (defScope (topS 42)) .none kV35 dc35 pm35 an35 cd35 ct35), sl35⟩)
    (c35 : PySem.W.codeIn K cd35 "_law_chip_begun" = true)
    (k35 : PySem.W.keepIn K (.ref f35) = true)
    (a36 : PySem.W.nsIn K mainGlobals "_law_chip_is_cells" = some (some (.ref f36)))
    (l36 : K.lookup f36 = some ⟨oc36, od36, .func (PySem.W.fnOf "_law_chip_is_cells" "_law_chip_is_cells" (defArgs (topS 43)) (defBody (topS 43)) (defScope (topS 43)) .none kV36 dc36 pm36 an36 cd36 ct36), sl36⟩)
    (c36 : PySem.W.codeIn K cd36 "_law_chip_is_cells" = true)
    (k36 : PySem.W.keepIn K (.ref f36) = true)
    (a37 : PySem.W.nsIn K mainGlobals "_law_chip_are_faults" = some (some (.ref f37)))
    (l37 : K.lookup f37 = some ⟨oc37, od37, .func (PySem.W.fnOf "_law_chip_are_faults" "_law_chip_are_faults" (defArgs (topS 44)) (defBody (topS 44)) (defScope (topS 44)) .none kV37 dc37 pm37 an37 cd37 ct37), sl37⟩)
    (c37 : PySem.W.codeIn K cd37 "_law_chip_are_faults" = true)
    (k37 : PySem.W.keepIn K (.ref f37) = true)
    (a38 : PySem.W.nsIn K mainGlobals "_law_chip_torn" = some (some (.ref f38)))
    (l38 : K.lookup f38 = some ⟨oc38, od38, .func (PySem.W.fnOf "_law_chip_torn" "_law_chip_torn" (defArgs (topS 45)) (defBody (topS 45)) (defScope (topS 45)) .none kV38 dc38 pm38 an38 cd38 ct38), sl38⟩)
    (c38 : PySem.W.codeIn K cd38 "_law_chip_torn" = true)
    (k38 : PySem.W.keepIn K (.ref f38) = true)
    (a39 : PySem.W.nsIn K mainGlobals "_law_chip_fault" = some (some (.ref f39)))
    (l39 : K.lookup f39 = some ⟨oc39, od39, .func (PySem.W.fnOf "_law_chip_fault" "_law_chip_fault" (defArgs (topS 46)) (defBody (topS 46)) (defScope (topS 46)) .none kV39 dc39 pm39 an39 cd39 ct39), sl39⟩)
    (c39 : PySem.W.codeIn K cd39 "_law_chip_fault" = true)
    (k39 : PySem.W.keepIn K (.ref f39) = true)
    (a40 : PySem.W.nsIn K mainGlobals "_law_chip_deed" = some (some (.ref f40)))
    (l40 : K.lookup f40 = some ⟨oc40, od40, .func (PySem.W.fnOf "_law_chip_deed" "_law_chip_deed" (defArgs (topS 47)) (defBody (topS 47)) (defScope (topS 47)) .none kV40 dc40 pm40 an40 cd40 ct40), sl40⟩)
    (c40 : PySem.W.codeIn K cd40 "_law_chip_deed" = true)
    (k40 : PySem.W.keepIn K (.ref f40) = true)
    (a41 : PySem.W.nsIn K mainGlobals "_law_chip_written" = some (some (.ref f41)))
    (l41 : K.lookup f41 = some ⟨oc41, od41, .func (PySem.W.fnOf "_law_chip_written" "_law_chip_written" (defArgs (topS 48)) (defBody (topS 48)) (defScope (topS 48)) .none kV41 dc41 pm41 an41 cd41 ct41), sl41⟩)
    (c41 : PySem.W.codeIn K cd41 "_law_chip_written" = true)
    (k41 : PySem.W.keepIn K (.ref f41) = true)
    (a42 : PySem.W.nsIn K mainGlobals "_law_chip_erased" = some (some (.ref f42)))
    (l42 : K.lookup f42 = some ⟨oc42, od42, .func (PySem.W.fnOf "_law_chip_erased" "_law_chip_erased" (defArgs (topS 49)) (defBody (topS 49)) (defScope (topS 49)) .none kV42 dc42 pm42 an42 cd42 ct42), sl42⟩)
    (c42 : PySem.W.codeIn K cd42 "_law_chip_erased" = true)
    (k42 : PySem.W.keepIn K (.ref f42) = true)
    (a43 : PySem.W.nsIn K mainGlobals "_law_chip_can_fade" = some (some (.ref f43)))
    (l43 : K.lookup f43 = some ⟨oc43, od43, .func (PySem.W.fnOf "_law_chip_can_fade" "_law_chip_can_fade" (defArgs (topS 50)) (defBody (topS 50)) (defScope (topS 50)) .none kV43 dc43 pm43 an43 cd43 ct43), sl43⟩)
    (c43 : PySem.W.codeIn K cd43 "_law_chip_can_fade" = true)
    (k43 : PySem.W.keepIn K (.ref f43) = true)
    (a44 : PySem.W.nsIn K mainGlobals "_law_chip_faded" = some (some (.ref f44)))
    (l44 : K.lookup f44 = some ⟨oc44, od44, .func (PySem.W.fnOf "_law_chip_faded" "_law_chip_faded" (defArgs (topS 51)) (defBody (topS 51)) (defScope (topS 51)) .none kV44 dc44 pm44 an44 cd44 ct44), sl44⟩)
    (c44 : PySem.W.codeIn K cd44 "_law_chip_faded" = true)
    (k44 : PySem.W.keepIn K (.ref f44) = true)
    (a45 : PySem.W.nsIn K mainGlobals "_law_chip_is_told" = some (some (.ref f45)))
    (l45 : K.lookup f45 = some ⟨oc45, od45, .func (PySem.W.fnOf "_law_chip_is_told" "_law_chip_is_told" (defArgs (topS 52)) (defBody (topS 52)) (defScope (topS 52)) .none kV45 dc45 pm45 an45 cd45 ct45), sl45⟩)
    (c45 : PySem.W.codeIn K cd45 "_law_chip_is_told" = true)
    (k45 : PySem.W.keepIn K (.ref f45) = true)
    (a46 : PySem.W.nsIn K mainGlobals "_law_chip_pattern" = some (some (.ref f46)))
    (l46 : K.lookup f46 = some ⟨oc46, od46, .func (PySem.W.fnOf "_law_chip_pattern" "_law_chip_pattern" (defArgs (topS 53)) (defBody (topS 53)) (defScope (topS 53)) .none kV46 dc46 pm46 an46 cd46 ct46), sl46⟩)
    (c46 : PySem.W.codeIn K cd46 "_law_chip_pattern" = true)
    (k46 : PySem.W.keepIn K (.ref f46) = true)
    (a47 : PySem.W.nsIn K mainGlobals "_law_chip_page" = some (some (.ref f47)))
    (l47 : K.lookup f47 = some ⟨oc47, od47, .func (PySem.W.fnOf "_law_chip_page" "_law_chip_page" (defArgs (topS 54)) (defBody (topS 54)) (defScope (topS 54)) .none kV47 dc47 pm47 an47 cd47 ct47), sl47⟩)
    (c47 : PySem.W.codeIn K cd47 "_law_chip_page" = true)
    (k47 : PySem.W.keepIn K (.ref f47) = true)
    (a48 : PySem.W.nsIn K mainGlobals "_law_is_raised" = some (some (.ref f48)))
    (l48 : K.lookup f48 = some ⟨oc48, od48, .func (PySem.W.fnOf "_law_is_raised" "_law_is_raised" (defArgs (topS 55)) (defBody (topS 55)) (defScope (topS 55)) .none kV48 dc48 pm48 an48 cd48 ct48), sl48⟩)
    (c48 : PySem.W.codeIn K cd48 "_law_is_raised" = true)
    (k48 : PySem.W.keepIn K (.ref f48) = true)
    (a49 : PySem.W.nsIn K mainGlobals "_law_are_sizes_right" = some (some (.ref f49)))
    (l49 : K.lookup f49 = some ⟨oc49, od49, .func (PySem.W.fnOf "_law_are_sizes_right" "_law_are_sizes_right" (defArgs (topS 56)) (defBody (topS 56)) (defScope (topS 56)) .none kV49 dc49 pm49 an49 cd49 ct49), sl49⟩)
    (c49 : PySem.W.codeIn K cd49 "_law_are_sizes_right" = true)
    (k49 : PySem.W.keepIn K (.ref f49) = true)
    (ta49 : cd49 = .ref tq49)
    (tb49 : K.lookup tq49 = some ⟨.type "code", to49, .fields tv49, ts49⟩)
    (tc49 : tv49[11]? = some (.ref tt49))
    (td49 : PySem.W.codeHdIn K tq49 tt49 = true)
    (te49 : K.lookup tt49 = none)
    (tf49 : tt49 ∈ ts)
    (a50 : PySem.W.nsIn K mainGlobals "_law_write_due" = some (some (.ref f50)))
    (l50 : K.lookup f50 = some ⟨oc50, od50, .func (PySem.W.fnOf "_law_write_due" "_law_write_due" (defArgs (topS 57)) (defBody (topS 57)) (defScope (topS 57)) .none kV50 dc50 pm50 an50 cd50 ct50), sl50⟩)
    (c50 : PySem.W.codeIn K cd50 "_law_write_due" = true)
    (k50 : PySem.W.keepIn K (.ref f50) = true)
    (a51 : PySem.W.nsIn K mainGlobals "_law_fault_drawn" = some (some (.ref f51)))
    (l51 : K.lookup f51 = some ⟨oc51, od51, .func (PySem.W.fnOf "_law_fault_drawn" "_law_fault_drawn" (defArgs (topS 58)) (defBody (topS 58)) (defScope (topS 58)) .none kV51 dc51 pm51 an51 cd51 ct51), sl51⟩)
    (c51 : PySem.W.codeIn K cd51 "_law_fault_drawn" = true)
    (k51 : PySem.W.keepIn K (.ref f51) = true)
    (a52 : PySem.W.nsIn K mainGlobals "_law_fault_due" = some (some (.ref f52)))
    (l52 : K.lookup f52 = some ⟨oc52, od52, .func (PySem.W.fnOf "_law_fault_due" "_law_fault_due" (defArgs (topS 59)) (defBody (topS 59)) (defScope (topS 59)) .none kV52 dc52 pm52 an52 cd52 ct52), sl52⟩)
    (c52 : PySem.W.codeIn K cd52 "_law_fault_due" = true)
    (k52 : PySem.W.keepIn K (.ref f52) = true)
    (a53 : PySem.W.nsIn K mainGlobals "_law_is_fault_right" = some (some (.ref f53)))
    (l53 : K.lookup f53 = some ⟨oc53, od53, .func (PySem.W.fnOf "_law_is_fault_right" "_law_is_fault_right" (defArgs (topS 60)) (defBody (topS 60)) (defScope (topS 60)) .none kV53 dc53 pm53 an53 cd53 ct53), sl53⟩)
    (c53 : PySem.W.codeIn K cd53 "_law_is_fault_right" = true)
    (k53 : PySem.W.keepIn K (.ref f53) = true)
    (ta53 : cd53 = .ref tq53)
    (tb53 : K.lookup tq53 = some ⟨.type "code", to53, .fields tv53, ts53⟩)
    (tc53 : tv53[11]? = some (.ref tt53))
    (td53 : PySem.W.codeHdIn K tq53 tt53 = true)
    (te53 : K.lookup tt53 = none)
    (tf53 : tt53 ∈ ts)
    (a54 : PySem.W.nsIn K mainGlobals "_law_right" = some (some (.ref f54)))
    (l54 : K.lookup f54 = some ⟨oc54, od54, .func (PySem.W.fnOf "_law_right" "_law_right" (defArgs (topS 61)) (defBody (topS 61)) (defScope (topS 61)) .none kV54 dc54 pm54 an54 cd54 ct54), sl54⟩)
    (c54 : PySem.W.codeIn K cd54 "_law_right" = true)
    (k54 : PySem.W.keepIn K (.ref f54) = true)
    (ta54 : cd54 = .ref tq54)
    (tb54 : K.lookup tq54 = some ⟨.type "code", to54, .fields tv54, ts54⟩)
    (tc54 : tv54[11]? = some (.ref tt54))
    (td54 : PySem.W.codeHdIn K tq54 tt54 = true)
    (te54 : K.lookup tt54 = none)
    (tf54 : tt54 ∈ ts)
    (a55 : PySem.W.nsIn K mainGlobals "law" = some (some (.ref f55)))
    (l55 : K.lookup f55 = some ⟨oc55, od55, .func (PySem.W.fnOf "law" "law" (defArgs (topS 62)) (defBody (topS 62)) (defScope (topS 62)) .none kV55 dc55 pm55 an55 cd55 ct55), sl55⟩)
    (c55 : PySem.W.codeIn K cd55 "law" = true)
    (k55 : PySem.W.keepIn K (.ref f55) = true)
    (zD : PySem.W.nsIn K mainGlobals "ToldError" = some (some (.ref aD)))
    (zs : PySem.W.nsIn K mainGlobals "super" = some none)
    (zt : (l.prog.main.scope.names.lookup ("super" : Str)).isSome = false)
    (zc : PySem.W.nsIn K cStatics "thirdparty.any" = some none)
    (zi : PySem.W.findIn K (.ref aD) "__init__" = some (some (.ref fI)))
    (zI : PySem.W.typeIn K (.ref fI) = some (.type "function"))
    (zf : K.lookup fI = some ⟨ioc, iod, .func (PySem.W.ksFn "__init__" "ToldError.__init__" (Told.iA ⟨22, 17, 22, 21⟩ ⟨22, 23, 22, 28⟩) (Told.iB ⟨23, 8, 23, 13⟩ ⟨23, 8, 23, 15⟩ ⟨23, 8, 23, 24⟩ ⟨23, 25, 23, 30⟩ ⟨23, 8, 23, 31⟩ ⟨23, 8, 23, 31⟩ ⟨24, 8, 24, 12⟩ ⟨24, 8, 24, 18⟩ ⟨24, 21, 24, 26⟩ ⟨24, 8, 24, 26⟩) Told.iS .none .none idc ipm ian (.ref cda) ict cc), isl⟩)
    (zk : K.lookup cc = some ⟨clc, clo, .cell (some (.ref aD)), csl⟩)
    (zo : PySem.W.codeIn K (.ref cda) "ToldError.__init__" = true)
    (zu : K.lookup cda = some ⟨cdc, cdo, .fields dvs, dsl⟩)
    (zv : dvs[2]? = some (.str fil ftk))
    (zw : ((l.prog.main.file : Str) == fil) = true)
    (zx : PySem.W.isClsIn K aD = true)
    (zg : PySem.W.specialIn K (.builtin "object.__class__") "__get__" = some (some (.builtin "getset_descriptor.__get__")))
    (zh : PySem.W.takesIn K (.builtin "object.__class__") = some true)
    (xa_0 : PySem.W.nsIn K mainGlobals "BadBlock" = some (some (.ref eC0)))
    (xl_0 : K.lookup eC0 = some (excClassObj en0 eq0 eC0 eN0 eb0 em0 true esn0 es0 eab0 eco0 edd0 ex0_0 ex1_0 ex2_0 ex3_0 ex5_0 "ValueError.__new__"))
    (xr_0 : refsVE em0 = true)
    (xs_0 : PySem.W.ks_superIn K eC0 aD "__init__" = some (some (.builtin "ValueError.__init__")))
    (xm_0 : PySem.W.mroIn K eC0 (.ref aD) = some true)
    (xv_0 : PySem.W.subIn K (.ref eC0) (.type "ValueError") = some true)
    (xi_0 : PySem.W.excInitIn K eC0 Told.veMro "ValueError.__new__" = true)
    (xt_0 : PySem.W.findIn K (.ref eC0) "__setattr__" = some (some (.builtin "object.__setattr__")))
    (xg_0 : PySem.W.findIn K (.ref eC0) "__getattribute__" = some (some (.builtin "BaseException.__getattribute__")))
    (xh_0 : PySem.W.findIn K (.ref eC0) "__getattr__" = some none)
    (xn_0 : PySem.W.findIn K (.ref eC0) "value" = some none)
    (xj_0 : PySem.W.findIn K (.ref eC0) "__init__" = some (some (.ref fI)))
    (xk_0 : PySem.W.keepIn K (.ref eC0) = true)
    (xe_0 : PySem.W.subIn K (.ref eC0) (.type "BaseException") = some true)
    (xy_0 : PySem.W.typeIn K (.ref eC0) = some (.type "type"))
    (xd_0 : PySem.W.hasDictIn K eC0 = true)
    (xp_0 : PySem.W.isClsIn K eC0 = true)
    (xq_0 : PySem.W.findIn K (.ref eC0) "__class__" = some (some (.builtin "object.__class__")))
    (xo_0 : PySem.W.mroIn K eC0 (.type "object") = some true)
    (xx_0 : PySem.W.exmOne K (.ref eC0) (.ref aD) = some true)
    (xa_1 : PySem.W.nsIn K mainGlobals "BadCells" = some (some (.ref eC1)))
    (xl_1 : K.lookup eC1 = some (excClassObj en1 eq1 eC1 eN1 eb1 em1 true esn1 es1 eab1 eco1 edd1 ex0_1 ex1_1 ex2_1 ex3_1 ex5_1 "ValueError.__new__"))
    (xr_1 : refsVE em1 = true)
    (xs_1 : PySem.W.ks_superIn K eC1 aD "__init__" = some (some (.builtin "ValueError.__init__")))
    (xm_1 : PySem.W.mroIn K eC1 (.ref aD) = some true)
    (xv_1 : PySem.W.subIn K (.ref eC1) (.type "ValueError") = some true)
    (xi_1 : PySem.W.excInitIn K eC1 Told.veMro "ValueError.__new__" = true)
    (xt_1 : PySem.W.findIn K (.ref eC1) "__setattr__" = some (some (.builtin "object.__setattr__")))
    (xg_1 : PySem.W.findIn K (.ref eC1) "__getattribute__" = some (some (.builtin "BaseException.__getattribute__")))
    (xh_1 : PySem.W.findIn K (.ref eC1) "__getattr__" = some none)
    (xn_1 : PySem.W.findIn K (.ref eC1) "value" = some none)
    (xj_1 : PySem.W.findIn K (.ref eC1) "__init__" = some (some (.ref fI)))
    (xk_1 : PySem.W.keepIn K (.ref eC1) = true)
    (xe_1 : PySem.W.subIn K (.ref eC1) (.type "BaseException") = some true)
    (xy_1 : PySem.W.typeIn K (.ref eC1) = some (.type "type"))
    (xd_1 : PySem.W.hasDictIn K eC1 = true)
    (xp_1 : PySem.W.isClsIn K eC1 = true)
    (xq_1 : PySem.W.findIn K (.ref eC1) "__class__" = some (some (.builtin "object.__class__")))
    (xo_1 : PySem.W.mroIn K eC1 (.type "object") = some true)
    (xx_1 : PySem.W.exmOne K (.ref eC1) (.ref aD) = some true)
    (xa_2 : PySem.W.nsIn K mainGlobals "BadFade" = some (some (.ref eC2)))
    (xl_2 : K.lookup eC2 = some (excClassObj en2 eq2 eC2 eN2 eb2 em2 true esn2 es2 eab2 eco2 edd2 ex0_2 ex1_2 ex2_2 ex3_2 ex5_2 "ValueError.__new__"))
    (xr_2 : refsVE em2 = true)
    (xs_2 : PySem.W.ks_superIn K eC2 aD "__init__" = some (some (.builtin "ValueError.__init__")))
    (xm_2 : PySem.W.mroIn K eC2 (.ref aD) = some true)
    (xv_2 : PySem.W.subIn K (.ref eC2) (.type "ValueError") = some true)
    (xi_2 : PySem.W.excInitIn K eC2 Told.veMro "ValueError.__new__" = true)
    (xt_2 : PySem.W.findIn K (.ref eC2) "__setattr__" = some (some (.builtin "object.__setattr__")))
    (xg_2 : PySem.W.findIn K (.ref eC2) "__getattribute__" = some (some (.builtin "BaseException.__getattribute__")))
    (xh_2 : PySem.W.findIn K (.ref eC2) "__getattr__" = some none)
    (xn_2 : PySem.W.findIn K (.ref eC2) "value" = some none)
    (xj_2 : PySem.W.findIn K (.ref eC2) "__init__" = some (some (.ref fI)))
    (xk_2 : PySem.W.keepIn K (.ref eC2) = true)
    (xe_2 : PySem.W.subIn K (.ref eC2) (.type "BaseException") = some true)
    (xy_2 : PySem.W.typeIn K (.ref eC2) = some (.type "type"))
    (xd_2 : PySem.W.hasDictIn K eC2 = true)
    (xp_2 : PySem.W.isClsIn K eC2 = true)
    (xq_2 : PySem.W.findIn K (.ref eC2) "__class__" = some (some (.builtin "object.__class__")))
    (xo_2 : PySem.W.mroIn K eC2 (.type "object") = some true)
    (xx_2 : PySem.W.exmOne K (.ref eC2) (.ref aD) = some true)
    (xa_3 : PySem.W.nsIn K mainGlobals "BadFault" = some (some (.ref eC3)))
    (xl_3 : K.lookup eC3 = some (excClassObj en3 eq3 eC3 eN3 eb3 em3 true esn3 es3 eab3 eco3 edd3 ex0_3 ex1_3 ex2_3 ex3_3 ex5_3 "ValueError.__new__"))
    (xr_3 : refsVE em3 = true)
    (xs_3 : PySem.W.ks_superIn K eC3 aD "__init__" = some (some (.builtin "ValueError.__init__")))
    (xm_3 : PySem.W.mroIn K eC3 (.ref aD) = some true)
    (xv_3 : PySem.W.subIn K (.ref eC3) (.type "ValueError") = some true)
    (xi_3 : PySem.W.excInitIn K eC3 Told.veMro "ValueError.__new__" = true)
    (xt_3 : PySem.W.findIn K (.ref eC3) "__setattr__" = some (some (.builtin "object.__setattr__")))
    (xg_3 : PySem.W.findIn K (.ref eC3) "__getattribute__" = some (some (.builtin "BaseException.__getattribute__")))
    (xh_3 : PySem.W.findIn K (.ref eC3) "__getattr__" = some none)
    (xn_3 : PySem.W.findIn K (.ref eC3) "value" = some none)
    (xj_3 : PySem.W.findIn K (.ref eC3) "__init__" = some (some (.ref fI)))
    (xk_3 : PySem.W.keepIn K (.ref eC3) = true)
    (xe_3 : PySem.W.subIn K (.ref eC3) (.type "BaseException") = some true)
    (xy_3 : PySem.W.typeIn K (.ref eC3) = some (.type "type"))
    (xd_3 : PySem.W.hasDictIn K eC3 = true)
    (xp_3 : PySem.W.isClsIn K eC3 = true)
    (xq_3 : PySem.W.findIn K (.ref eC3) "__class__" = some (some (.builtin "object.__class__")))
    (xo_3 : PySem.W.mroIn K eC3 (.type "object") = some true)
    (xx_3 : PySem.W.exmOne K (.ref eC3) (.ref aD) = some true)
    (xa_4 : PySem.W.nsIn K mainGlobals "BadFaults" = some (some (.ref eC4)))
    (xl_4 : K.lookup eC4 = some (excClassObj en4 eq4 eC4 eN4 eb4 em4 true esn4 es4 eab4 eco4 edd4 ex0_4 ex1_4 ex2_4 ex3_4 ex5_4 "ValueError.__new__"))
    (xr_4 : refsVE em4 = true)
    (xs_4 : PySem.W.ks_superIn K eC4 aD "__init__" = some (some (.builtin "ValueError.__init__")))
    (xm_4 : PySem.W.mroIn K eC4 (.ref aD) = some true)
    (xv_4 : PySem.W.subIn K (.ref eC4) (.type "ValueError") = some true)
    (xi_4 : PySem.W.excInitIn K eC4 Told.veMro "ValueError.__new__" = true)
    (xt_4 : PySem.W.findIn K (.ref eC4) "__setattr__" = some (some (.builtin "object.__setattr__")))
    (xg_4 : PySem.W.findIn K (.ref eC4) "__getattribute__" = some (some (.builtin "BaseException.__getattribute__")))
    (xh_4 : PySem.W.findIn K (.ref eC4) "__getattr__" = some none)
    (xn_4 : PySem.W.findIn K (.ref eC4) "value" = some none)
    (xj_4 : PySem.W.findIn K (.ref eC4) "__init__" = some (some (.ref fI)))
    (xk_4 : PySem.W.keepIn K (.ref eC4) = true)
    (xe_4 : PySem.W.subIn K (.ref eC4) (.type "BaseException") = some true)
    (xy_4 : PySem.W.typeIn K (.ref eC4) = some (.type "type"))
    (xd_4 : PySem.W.hasDictIn K eC4 = true)
    (xp_4 : PySem.W.isClsIn K eC4 = true)
    (xq_4 : PySem.W.findIn K (.ref eC4) "__class__" = some (some (.builtin "object.__class__")))
    (xo_4 : PySem.W.mroIn K eC4 (.type "object") = some true)
    (xx_4 : PySem.W.exmOne K (.ref eC4) (.ref aD) = some true)
    (xa_5 : PySem.W.nsIn K mainGlobals "BadPlace" = some (some (.ref eC5)))
    (xl_5 : K.lookup eC5 = some (excClassObj en5 eq5 eC5 eN5 eb5 em5 true esn5 es5 eab5 eco5 edd5 ex0_5 ex1_5 ex2_5 ex3_5 ex5_5 "ValueError.__new__"))
    (xr_5 : refsVE em5 = true)
    (xs_5 : PySem.W.ks_superIn K eC5 aD "__init__" = some (some (.builtin "ValueError.__init__")))
    (xm_5 : PySem.W.mroIn K eC5 (.ref aD) = some true)
    (xv_5 : PySem.W.subIn K (.ref eC5) (.type "ValueError") = some true)
    (xi_5 : PySem.W.excInitIn K eC5 Told.veMro "ValueError.__new__" = true)
    (xt_5 : PySem.W.findIn K (.ref eC5) "__setattr__" = some (some (.builtin "object.__setattr__")))
    (xg_5 : PySem.W.findIn K (.ref eC5) "__getattribute__" = some (some (.builtin "BaseException.__getattribute__")))
    (xh_5 : PySem.W.findIn K (.ref eC5) "__getattr__" = some none)
    (xn_5 : PySem.W.findIn K (.ref eC5) "value" = some none)
    (xj_5 : PySem.W.findIn K (.ref eC5) "__init__" = some (some (.ref fI)))
    (xk_5 : PySem.W.keepIn K (.ref eC5) = true)
    (xe_5 : PySem.W.subIn K (.ref eC5) (.type "BaseException") = some true)
    (xy_5 : PySem.W.typeIn K (.ref eC5) = some (.type "type"))
    (xd_5 : PySem.W.hasDictIn K eC5 = true)
    (xp_5 : PySem.W.isClsIn K eC5 = true)
    (xq_5 : PySem.W.findIn K (.ref eC5) "__class__" = some (some (.builtin "object.__class__")))
    (xo_5 : PySem.W.mroIn K eC5 (.type "object") = some true)
    (xx_5 : PySem.W.exmOne K (.ref eC5) (.ref aD) = some true)
    (xa_6 : PySem.W.nsIn K mainGlobals "BadSize" = some (some (.ref eC6)))
    (xl_6 : K.lookup eC6 = some (excClassObj en6 eq6 eC6 eN6 eb6 em6 true esn6 es6 eab6 eco6 edd6 ex0_6 ex1_6 ex2_6 ex3_6 ex5_6 "ValueError.__new__"))
    (xr_6 : refsVE em6 = true)
    (xs_6 : PySem.W.ks_superIn K eC6 aD "__init__" = some (some (.builtin "ValueError.__init__")))
    (xm_6 : PySem.W.mroIn K eC6 (.ref aD) = some true)
    (xv_6 : PySem.W.subIn K (.ref eC6) (.type "ValueError") = some true)
    (xi_6 : PySem.W.excInitIn K eC6 Told.veMro "ValueError.__new__" = true)
    (xt_6 : PySem.W.findIn K (.ref eC6) "__setattr__" = some (some (.builtin "object.__setattr__")))
    (xg_6 : PySem.W.findIn K (.ref eC6) "__getattribute__" = some (some (.builtin "BaseException.__getattribute__")))
    (xh_6 : PySem.W.findIn K (.ref eC6) "__getattr__" = some none)
    (xn_6 : PySem.W.findIn K (.ref eC6) "value" = some none)
    (xj_6 : PySem.W.findIn K (.ref eC6) "__init__" = some (some (.ref fI)))
    (xk_6 : PySem.W.keepIn K (.ref eC6) = true)
    (xe_6 : PySem.W.subIn K (.ref eC6) (.type "BaseException") = some true)
    (xy_6 : PySem.W.typeIn K (.ref eC6) = some (.type "type"))
    (xd_6 : PySem.W.hasDictIn K eC6 = true)
    (xp_6 : PySem.W.isClsIn K eC6 = true)
    (xq_6 : PySem.W.findIn K (.ref eC6) "__class__" = some (some (.builtin "object.__class__")))
    (xo_6 : PySem.W.mroIn K eC6 (.type "object") = some true)
    (xx_6 : PySem.W.exmOne K (.ref eC6) (.ref aD) = some true)
    (xa_7 : PySem.W.nsIn K mainGlobals "Cut" = some (some (.ref eC7)))
    (xl_7 : K.lookup eC7 = some (excClassObj en7 eq7 eC7 eN7 eb7 em7 true esn7 es7 eab7 eco7 edd7 ex0_7 ex1_7 ex2_7 ex3_7 ex5_7 "ValueError.__new__"))
    (xr_7 : refsVE em7 = true)
    (xs_7 : PySem.W.ks_superIn K eC7 aD "__init__" = some (some (.builtin "ValueError.__init__")))
    (xm_7 : PySem.W.mroIn K eC7 (.ref aD) = some true)
    (xv_7 : PySem.W.subIn K (.ref eC7) (.type "ValueError") = some true)
    (xi_7 : PySem.W.excInitIn K eC7 Told.veMro "ValueError.__new__" = true)
    (xt_7 : PySem.W.findIn K (.ref eC7) "__setattr__" = some (some (.builtin "object.__setattr__")))
    (xg_7 : PySem.W.findIn K (.ref eC7) "__getattribute__" = some (some (.builtin "BaseException.__getattribute__")))
    (xh_7 : PySem.W.findIn K (.ref eC7) "__getattr__" = some none)
    (xn_7 : PySem.W.findIn K (.ref eC7) "value" = some none)
    (xj_7 : PySem.W.findIn K (.ref eC7) "__init__" = some (some (.ref fI)))
    (xk_7 : PySem.W.keepIn K (.ref eC7) = true)
    (xe_7 : PySem.W.subIn K (.ref eC7) (.type "BaseException") = some true)
    (xy_7 : PySem.W.typeIn K (.ref eC7) = some (.type "type"))
    (xd_7 : PySem.W.hasDictIn K eC7 = true)
    (xp_7 : PySem.W.isClsIn K eC7 = true)
    (xq_7 : PySem.W.findIn K (.ref eC7) "__class__" = some (some (.builtin "object.__class__")))
    (xo_7 : PySem.W.mroIn K eC7 (.type "object") = some true)
    (xx_7 : PySem.W.exmOne K (.ref eC7) (.ref aD) = some true)
    (xa_8 : PySem.W.nsIn K mainGlobals "NotEmpty" = some (some (.ref eC8)))
    (xl_8 : K.lookup eC8 = some (excClassObj en8 eq8 eC8 eN8 eb8 em8 true esn8 es8 eab8 eco8 edd8 ex0_8 ex1_8 ex2_8 ex3_8 ex5_8 "ValueError.__new__"))
    (xr_8 : refsVE em8 = true)
    (xs_8 : PySem.W.ks_superIn K eC8 aD "__init__" = some (some (.builtin "ValueError.__init__")))
    (xm_8 : PySem.W.mroIn K eC8 (.ref aD) = some true)
    (xv_8 : PySem.W.subIn K (.ref eC8) (.type "ValueError") = some true)
    (xi_8 : PySem.W.excInitIn K eC8 Told.veMro "ValueError.__new__" = true)
    (xt_8 : PySem.W.findIn K (.ref eC8) "__setattr__" = some (some (.builtin "object.__setattr__")))
    (xg_8 : PySem.W.findIn K (.ref eC8) "__getattribute__" = some (some (.builtin "BaseException.__getattribute__")))
    (xh_8 : PySem.W.findIn K (.ref eC8) "__getattr__" = some none)
    (xn_8 : PySem.W.findIn K (.ref eC8) "value" = some none)
    (xj_8 : PySem.W.findIn K (.ref eC8) "__init__" = some (some (.ref fI)))
    (xk_8 : PySem.W.keepIn K (.ref eC8) = true)
    (xe_8 : PySem.W.subIn K (.ref eC8) (.type "BaseException") = some true)
    (xy_8 : PySem.W.typeIn K (.ref eC8) = some (.type "type"))
    (xd_8 : PySem.W.hasDictIn K eC8 = true)
    (xp_8 : PySem.W.isClsIn K eC8 = true)
    (xq_8 : PySem.W.findIn K (.ref eC8) "__class__" = some (some (.builtin "object.__class__")))
    (xo_8 : PySem.W.mroIn K eC8 (.type "object") = some true)
    (xx_8 : PySem.W.exmOne K (.ref eC8) (.ref aD) = some true)
    (xa_9 : PySem.W.nsIn K mainGlobals "Pending" = some (some (.ref eC9)))
    (xl_9 : K.lookup eC9 = some (excClassObj en9 eq9 eC9 eN9 eb9 em9 true esn9 es9 eab9 eco9 edd9 ex0_9 ex1_9 ex2_9 ex3_9 ex5_9 "ValueError.__new__"))
    (xr_9 : refsVE em9 = true)
    (xs_9 : PySem.W.ks_superIn K eC9 aD "__init__" = some (some (.builtin "ValueError.__init__")))
    (xm_9 : PySem.W.mroIn K eC9 (.ref aD) = some true)
    (xv_9 : PySem.W.subIn K (.ref eC9) (.type "ValueError") = some true)
    (xi_9 : PySem.W.excInitIn K eC9 Told.veMro "ValueError.__new__" = true)
    (xt_9 : PySem.W.findIn K (.ref eC9) "__setattr__" = some (some (.builtin "object.__setattr__")))
    (xg_9 : PySem.W.findIn K (.ref eC9) "__getattribute__" = some (some (.builtin "BaseException.__getattribute__")))
    (xh_9 : PySem.W.findIn K (.ref eC9) "__getattr__" = some none)
    (xn_9 : PySem.W.findIn K (.ref eC9) "value" = some none)
    (xj_9 : PySem.W.findIn K (.ref eC9) "__init__" = some (some (.ref fI)))
    (xk_9 : PySem.W.keepIn K (.ref eC9) = true)
    (xe_9 : PySem.W.subIn K (.ref eC9) (.type "BaseException") = some true)
    (xy_9 : PySem.W.typeIn K (.ref eC9) = some (.type "type"))
    (xd_9 : PySem.W.hasDictIn K eC9 = true)
    (xp_9 : PySem.W.isClsIn K eC9 = true)
    (xq_9 : PySem.W.findIn K (.ref eC9) "__class__" = some (some (.builtin "object.__class__")))
    (xo_9 : PySem.W.mroIn K eC9 (.type "object") = some true)
    (xx_9 : PySem.W.exmOne K (.ref eC9) (.ref aD) = some true)
    (y0_0 : PySem.W.kitOne K (.ref eC0) (.ref eC0) = some true)
    (y0_1 : PySem.W.kitOne K (.ref eC0) (.ref eC1) = some false)
    (y0_2 : PySem.W.kitOne K (.ref eC0) (.ref eC2) = some false)
    (y0_3 : PySem.W.kitOne K (.ref eC0) (.ref eC3) = some false)
    (y0_4 : PySem.W.kitOne K (.ref eC0) (.ref eC4) = some false)
    (y0_5 : PySem.W.kitOne K (.ref eC0) (.ref eC5) = some false)
    (y0_6 : PySem.W.kitOne K (.ref eC0) (.ref eC6) = some false)
    (y0_7 : PySem.W.kitOne K (.ref eC0) (.ref eC7) = some false)
    (y0_8 : PySem.W.kitOne K (.ref eC0) (.ref eC8) = some false)
    (y0_9 : PySem.W.kitOne K (.ref eC0) (.ref eC9) = some false)
    (y1_0 : PySem.W.kitOne K (.ref eC1) (.ref eC0) = some false)
    (y1_1 : PySem.W.kitOne K (.ref eC1) (.ref eC1) = some true)
    (y1_2 : PySem.W.kitOne K (.ref eC1) (.ref eC2) = some false)
    (y1_3 : PySem.W.kitOne K (.ref eC1) (.ref eC3) = some false)
    (y1_4 : PySem.W.kitOne K (.ref eC1) (.ref eC4) = some false)
    (y1_5 : PySem.W.kitOne K (.ref eC1) (.ref eC5) = some false)
    (y1_6 : PySem.W.kitOne K (.ref eC1) (.ref eC6) = some false)
    (y1_7 : PySem.W.kitOne K (.ref eC1) (.ref eC7) = some false)
    (y1_8 : PySem.W.kitOne K (.ref eC1) (.ref eC8) = some false)
    (y1_9 : PySem.W.kitOne K (.ref eC1) (.ref eC9) = some false)
    (y2_0 : PySem.W.kitOne K (.ref eC2) (.ref eC0) = some false)
    (y2_1 : PySem.W.kitOne K (.ref eC2) (.ref eC1) = some false)
    (y2_2 : PySem.W.kitOne K (.ref eC2) (.ref eC2) = some true)
    (y2_3 : PySem.W.kitOne K (.ref eC2) (.ref eC3) = some false)
    (y2_4 : PySem.W.kitOne K (.ref eC2) (.ref eC4) = some false)
    (y2_5 : PySem.W.kitOne K (.ref eC2) (.ref eC5) = some false)
    (y2_6 : PySem.W.kitOne K (.ref eC2) (.ref eC6) = some false)
    (y2_7 : PySem.W.kitOne K (.ref eC2) (.ref eC7) = some false)
    (y2_8 : PySem.W.kitOne K (.ref eC2) (.ref eC8) = some false)
    (y2_9 : PySem.W.kitOne K (.ref eC2) (.ref eC9) = some false)
    (y3_0 : PySem.W.kitOne K (.ref eC3) (.ref eC0) = some false)
    (y3_1 : PySem.W.kitOne K (.ref eC3) (.ref eC1) = some false)
    (y3_2 : PySem.W.kitOne K (.ref eC3) (.ref eC2) = some false)
    (y3_3 : PySem.W.kitOne K (.ref eC3) (.ref eC3) = some true)
    (y3_4 : PySem.W.kitOne K (.ref eC3) (.ref eC4) = some false)
    (y3_5 : PySem.W.kitOne K (.ref eC3) (.ref eC5) = some false)
    (y3_6 : PySem.W.kitOne K (.ref eC3) (.ref eC6) = some false)
    (y3_7 : PySem.W.kitOne K (.ref eC3) (.ref eC7) = some false)
    (y3_8 : PySem.W.kitOne K (.ref eC3) (.ref eC8) = some false)
    (y3_9 : PySem.W.kitOne K (.ref eC3) (.ref eC9) = some false)
    (y4_0 : PySem.W.kitOne K (.ref eC4) (.ref eC0) = some false)
    (y4_1 : PySem.W.kitOne K (.ref eC4) (.ref eC1) = some false)
    (y4_2 : PySem.W.kitOne K (.ref eC4) (.ref eC2) = some false)
    (y4_3 : PySem.W.kitOne K (.ref eC4) (.ref eC3) = some false)
    (y4_4 : PySem.W.kitOne K (.ref eC4) (.ref eC4) = some true)
    (y4_5 : PySem.W.kitOne K (.ref eC4) (.ref eC5) = some false)
    (y4_6 : PySem.W.kitOne K (.ref eC4) (.ref eC6) = some false)
    (y4_7 : PySem.W.kitOne K (.ref eC4) (.ref eC7) = some false)
    (y4_8 : PySem.W.kitOne K (.ref eC4) (.ref eC8) = some false)
    (y4_9 : PySem.W.kitOne K (.ref eC4) (.ref eC9) = some false)
    (y5_0 : PySem.W.kitOne K (.ref eC5) (.ref eC0) = some false)
    (y5_1 : PySem.W.kitOne K (.ref eC5) (.ref eC1) = some false)
    (y5_2 : PySem.W.kitOne K (.ref eC5) (.ref eC2) = some false)
    (y5_3 : PySem.W.kitOne K (.ref eC5) (.ref eC3) = some false)
    (y5_4 : PySem.W.kitOne K (.ref eC5) (.ref eC4) = some false)
    (y5_5 : PySem.W.kitOne K (.ref eC5) (.ref eC5) = some true)
    (y5_6 : PySem.W.kitOne K (.ref eC5) (.ref eC6) = some false)
    (y5_7 : PySem.W.kitOne K (.ref eC5) (.ref eC7) = some false)
    (y5_8 : PySem.W.kitOne K (.ref eC5) (.ref eC8) = some false)
    (y5_9 : PySem.W.kitOne K (.ref eC5) (.ref eC9) = some false)
    (y6_0 : PySem.W.kitOne K (.ref eC6) (.ref eC0) = some false)
    (y6_1 : PySem.W.kitOne K (.ref eC6) (.ref eC1) = some false)
    (y6_2 : PySem.W.kitOne K (.ref eC6) (.ref eC2) = some false)
    (y6_3 : PySem.W.kitOne K (.ref eC6) (.ref eC3) = some false)
    (y6_4 : PySem.W.kitOne K (.ref eC6) (.ref eC4) = some false)
    (y6_5 : PySem.W.kitOne K (.ref eC6) (.ref eC5) = some false)
    (y6_6 : PySem.W.kitOne K (.ref eC6) (.ref eC6) = some true)
    (y6_7 : PySem.W.kitOne K (.ref eC6) (.ref eC7) = some false)
    (y6_8 : PySem.W.kitOne K (.ref eC6) (.ref eC8) = some false)
    (y6_9 : PySem.W.kitOne K (.ref eC6) (.ref eC9) = some false)
    (y7_0 : PySem.W.kitOne K (.ref eC7) (.ref eC0) = some false)
    (y7_1 : PySem.W.kitOne K (.ref eC7) (.ref eC1) = some false)
    (y7_2 : PySem.W.kitOne K (.ref eC7) (.ref eC2) = some false)
    (y7_3 : PySem.W.kitOne K (.ref eC7) (.ref eC3) = some false)
    (y7_4 : PySem.W.kitOne K (.ref eC7) (.ref eC4) = some false)
    (y7_5 : PySem.W.kitOne K (.ref eC7) (.ref eC5) = some false)
    (y7_6 : PySem.W.kitOne K (.ref eC7) (.ref eC6) = some false)
    (y7_7 : PySem.W.kitOne K (.ref eC7) (.ref eC7) = some true)
    (y7_8 : PySem.W.kitOne K (.ref eC7) (.ref eC8) = some false)
    (y7_9 : PySem.W.kitOne K (.ref eC7) (.ref eC9) = some false)
    (y8_0 : PySem.W.kitOne K (.ref eC8) (.ref eC0) = some false)
    (y8_1 : PySem.W.kitOne K (.ref eC8) (.ref eC1) = some false)
    (y8_2 : PySem.W.kitOne K (.ref eC8) (.ref eC2) = some false)
    (y8_3 : PySem.W.kitOne K (.ref eC8) (.ref eC3) = some false)
    (y8_4 : PySem.W.kitOne K (.ref eC8) (.ref eC4) = some false)
    (y8_5 : PySem.W.kitOne K (.ref eC8) (.ref eC5) = some false)
    (y8_6 : PySem.W.kitOne K (.ref eC8) (.ref eC6) = some false)
    (y8_7 : PySem.W.kitOne K (.ref eC8) (.ref eC7) = some false)
    (y8_8 : PySem.W.kitOne K (.ref eC8) (.ref eC8) = some true)
    (y8_9 : PySem.W.kitOne K (.ref eC8) (.ref eC9) = some false)
    (y9_0 : PySem.W.kitOne K (.ref eC9) (.ref eC0) = some false)
    (y9_1 : PySem.W.kitOne K (.ref eC9) (.ref eC1) = some false)
    (y9_2 : PySem.W.kitOne K (.ref eC9) (.ref eC2) = some false)
    (y9_3 : PySem.W.kitOne K (.ref eC9) (.ref eC3) = some false)
    (y9_4 : PySem.W.kitOne K (.ref eC9) (.ref eC4) = some false)
    (y9_5 : PySem.W.kitOne K (.ref eC9) (.ref eC5) = some false)
    (y9_6 : PySem.W.kitOne K (.ref eC9) (.ref eC6) = some false)
    (y9_7 : PySem.W.kitOne K (.ref eC9) (.ref eC7) = some false)
    (y9_8 : PySem.W.kitOne K (.ref eC9) (.ref eC8) = some false)
    (y9_9 : PySem.W.kitOne K (.ref eC9) (.ref eC9) = some true)
    (saoC0 : PySem.W.plainGet K oC0 Str.empty = true)
    (sboC0 : PySem.W.isClsIn K oC0 = true)
    (scoC0 : PySem.W.plainOver K oC0 = true)
    (sdoC0 : PySem.W.findIn K (.ref oC0) "__setattr__" = some (some (.builtin "object.__setattr__")))
    (vaoC0_0 : PySem.W.findIn K (.ref oC0) "own_bad" = some (some (.ref psoC0_0)))
    (vboC0_0 : PySem.W.specialIn K (.ref psoC0_0) "__get__" = some (some (.builtin "member_descriptor.__get__")))
    (vcoC0_0 : PySem.W.takesIn K (.ref psoC0_0) = some true)
    (vdoC0_0 : PySem.W.typeIn K (.ref psoC0_0) = some (.type "member_descriptor"))
    (veoC0_0 : PySem.W.slotIn K psoC0_0 oC0 = some 0)
    (vaoC0_1 : PySem.W.findIn K (.ref oC0) "own_blocks" = some (some (.ref psoC0_1)))
    (vboC0_1 : PySem.W.specialIn K (.ref psoC0_1) "__get__" = some (some (.builtin "member_descriptor.__get__")))
    (vcoC0_1 : PySem.W.takesIn K (.ref psoC0_1) = some true)
    (vdoC0_1 : PySem.W.typeIn K (.ref psoC0_1) = some (.type "member_descriptor"))
    (veoC0_1 : PySem.W.slotIn K psoC0_1 oC0 = some 1)
    (vaoC0_2 : PySem.W.findIn K (.ref oC0) "own_cells" = some (some (.ref psoC0_2)))
    (vboC0_2 : PySem.W.specialIn K (.ref psoC0_2) "__get__" = some (some (.builtin "member_descriptor.__get__")))
    (vcoC0_2 : PySem.W.takesIn K (.ref psoC0_2) = some true)
    (vdoC0_2 : PySem.W.typeIn K (.ref psoC0_2) = some (.type "member_descriptor"))
    (veoC0_2 : PySem.W.slotIn K psoC0_2 oC0 = some 2)
    (vaoC0_3 : PySem.W.findIn K (.ref oC0) "own_cuts" = some (some (.ref psoC0_3)))
    (vboC0_3 : PySem.W.specialIn K (.ref psoC0_3) "__get__" = some (some (.builtin "member_descriptor.__get__")))
    (vcoC0_3 : PySem.W.takesIn K (.ref psoC0_3) = some true)
    (vdoC0_3 : PySem.W.typeIn K (.ref psoC0_3) = some (.type "member_descriptor"))
    (veoC0_3 : PySem.W.slotIn K psoC0_3 oC0 = some 3)
    (vaoC0_4 : PySem.W.findIn K (.ref oC0) "own_done" = some (some (.ref psoC0_4)))
    (vboC0_4 : PySem.W.specialIn K (.ref psoC0_4) "__get__" = some (some (.builtin "member_descriptor.__get__")))
    (vcoC0_4 : PySem.W.takesIn K (.ref psoC0_4) = some true)
    (vdoC0_4 : PySem.W.typeIn K (.ref psoC0_4) = some (.type "member_descriptor"))
    (veoC0_4 : PySem.W.slotIn K psoC0_4 oC0 = some 4)
    (vaoC0_5 : PySem.W.findIn K (.ref oC0) "own_faults" = some (some (.ref psoC0_5)))
    (vboC0_5 : PySem.W.specialIn K (.ref psoC0_5) "__get__" = some (some (.builtin "member_descriptor.__get__")))
    (vcoC0_5 : PySem.W.takesIn K (.ref psoC0_5) = some true)
    (vdoC0_5 : PySem.W.typeIn K (.ref psoC0_5) = some (.type "member_descriptor"))
    (veoC0_5 : PySem.W.slotIn K psoC0_5 oC0 = some 5)
    (vaoC0_6 : PySem.W.findIn K (.ref oC0) "own_is_on" = some (some (.ref psoC0_6)))
    (vboC0_6 : PySem.W.specialIn K (.ref psoC0_6) "__get__" = some (some (.builtin "member_descriptor.__get__")))
    (vcoC0_6 : PySem.W.takesIn K (.ref psoC0_6) = some true)
    (vdoC0_6 : PySem.W.typeIn K (.ref psoC0_6) = some (.type "member_descriptor"))
    (veoC0_6 : PySem.W.slotIn K psoC0_6 oC0 = some 6)
    (vaoC0_7 : PySem.W.findIn K (.ref oC0) "own_pages" = some (some (.ref psoC0_7)))
    (vboC0_7 : PySem.W.specialIn K (.ref psoC0_7) "__get__" = some (some (.builtin "member_descriptor.__get__")))
    (vcoC0_7 : PySem.W.takesIn K (.ref psoC0_7) = some true)
    (vdoC0_7 : PySem.W.typeIn K (.ref psoC0_7) = some (.type "member_descriptor"))
    (veoC0_7 : PySem.W.slotIn K psoC0_7 oC0 = some 7)
    (vaoC0_8 : PySem.W.findIn K (.ref oC0) "own_wear" = some (some (.ref psoC0_8)))
    (vboC0_8 : PySem.W.specialIn K (.ref psoC0_8) "__get__" = some (some (.builtin "member_descriptor.__get__")))
    (vcoC0_8 : PySem.W.takesIn K (.ref psoC0_8) = some true)
    (vdoC0_8 : PySem.W.typeIn K (.ref psoC0_8) = some (.type "member_descriptor"))
    (veoC0_8 : PySem.W.slotIn K psoC0_8 oC0 = some 8)
    (vaoC0_9 : PySem.W.findIn K (.ref oC0) "own_written" = some (some (.ref psoC0_9)))
    (vboC0_9 : PySem.W.specialIn K (.ref psoC0_9) "__get__" = some (some (.builtin "member_descriptor.__get__")))
    (vcoC0_9 : PySem.W.takesIn K (.ref psoC0_9) = some true)
    (vdoC0_9 : PySem.W.typeIn K (.ref psoC0_9) = some (.type "member_descriptor"))
    (veoC0_9 : PySem.W.slotIn K psoC0_9 oC0 = some 9)
    (z56 : PySem.W.nsIn K mainGlobals "len" = some none)
    (z57 : PySem.W.nsIn K mainGlobals "all" = some none)
    (z58 : PySem.W.nsIn K mainGlobals "isinstance" = some none)
    (z59 : PySem.W.nsIn K mainGlobals "sum" = some none)
    (z60 : PySem.W.nsIn K mainGlobals "abs" = some none)
    (z61 : PySem.W.nsIn K mainGlobals "max" = some none)
    (z62 : PySem.W.nsIn K mainGlobals "min" = some none)
    (z63 : PySem.W.nsIn K mainGlobals "repr" = some none)
    (z64 : PySem.W.nsIn K mainGlobals "sorted" = some none)
    (z65 : PySem.W.nsIn K mainGlobals "int" = some none)
    (z66 : PySem.W.nsIn K mainGlobals "set" = some none)
    (z67 : PySem.W.nsIn K mainGlobals "bool" = some none)
    (z68 : PySem.W.nsIn K mainGlobals "str" = some none)
    (z69 : PySem.W.nsIn K mainGlobals "tuple" = some none)
    (z70 : PySem.W.nsIn K mainGlobals "list" = some none)
    (z71 : PySem.W.nsIn K mainGlobals "dict" = some none)
    (z72 : PySem.W.nsIn K mainGlobals "range" = some none)
    (z73 : PySem.W.nsIn K mainGlobals "zip" = some none)
    (z74 : PySem.W.nsIn K mainGlobals "enumerate" = some none)
    (z75 : PySem.W.nsIn K mainGlobals "CELLS" = some (some (.str x75 t75)))
    (e_75 : x75 = ⟨([48, 49, 50, 51, 52, 53, 54, 55, 56, 57, 97, 98, 99, 100, 101, 102] : List Nat).toArray⟩)
    (z76 : PySem.W.nsIn K mainGlobals "CELLS_A_PAGE" = some (some (.int 256 t76)))
    (z77 : PySem.W.nsIn K mainGlobals "LEAST_BLOCKS" = some (some (.int 4 t77)))
    (z78 : PySem.W.nsIn K mainGlobals "MOST_BLOCKS" = some (some (.int 64 t78)))
    (z79 : PySem.W.nsIn K mainGlobals "LEAST_PAGES" = some (some (.int 4 t79)))
    (z80 : PySem.W.nsIn K mainGlobals "MOST_PAGES" = some (some (.int 16 t80)))
    (z81 : PySem.W.nsIn K mainGlobals "EMPTY" = some (some (.str x81 t81)))
    (e_81 : x81 = ⟨((List.replicate 256 102) : List Nat).toArray⟩)
    (z82 : PySem.W.nsIn K mainGlobals "CUT" = some (some (.str x82 t82)))
    (e_82 : x82 = ⟨([99, 117, 116] : List Nat).toArray⟩)
    (z83 : PySem.W.nsIn K mainGlobals "BAD" = some (some (.str x83 t83)))
    (e_83 : x83 = ⟨([98, 97, 100] : List Nat).toArray⟩)
    (z84 : PySem.W.nsIn K mainGlobals "TRIPLE" = some (some (.int 3 t84)))
    (tg : [tt49, tt53, tt54].Nodup) :
    (∀ p ∈ ([tabP K "_law_are_sizes_right" "_law_are_sizes_right.<locals>.<lambda>", tabP K "_law_is_fault_right" "_law_is_fault_right.<locals>.<lambda>", tabP K "_law_right" "_law_right.<locals>.<lambda>"] : TabL), PySem.W.CodeHd h p.1 p.2.1 ∧ h.get? p.2.1 = some (tObj #[])) ∧ (∀ p ∈ ([tabP K "_law_are_sizes_right" "_law_are_sizes_right.<locals>.<lambda>", tabP K "_law_is_fault_right" "_law_is_fault_right.<locals>.<lambda>", tabP K "_law_right" "_law_right.<locals>.<lambda>"] : TabL), K.lookup p.2.1 = none) ∧ (tAd ([tabP K "_law_are_sizes_right" "_law_are_sizes_right.<locals>.<lambda>", tabP K "_law_is_fault_right" "_law_is_fault_right.<locals>.<lambda>", tabP K "_law_right" "_law_right.<locals>.<lambda>"] : TabL)).Nodup ∧ ∃ fd : FuncData, (∀ (s : Shared) (v : Value), BindsTo s fd ⟨[v], []⟩ [("script", v)]) ∧ ∀ base : Heap, K.In base → base.Ns mainGlobals mg → (∀ p ∈ ([tabP K "_law_are_sizes_right" "_law_are_sizes_right.<locals>.<lambda>", tabP K "_law_is_fault_right" "_law_is_fault_right.<locals>.<lambda>", tabP K "_law_right" "_law_right.<locals>.<lambda>"] : TabL), LamX.TabB base mg p.1 p.2.1) → FnG l.prog w K mg base CX0 32 fa fd ["script"] (SpD K (F_law ([tabP K "_law_are_sizes_right" "_law_are_sizes_right.<locals>.<lambda>", tabP K "_law_is_fault_right" "_law_is_fault_right.<locals>.<lambda>", tabP K "_law_right" "_law_right.<locals>.<lambda>"] : TabL))) := by
  have t49 : PySem.W.tabIn K "_law_are_sizes_right" = some (tq49, tt49) := tabIn_of a49 l49 ta49 tb49 tc49
  have t53 : PySem.W.tabIn K "_law_is_fault_right" = some (tq53, tt53) := tabIn_of a53 l53 ta53 tb53 tc53
  have t54 : PySem.W.tabIn K "_law_right" = some (tq54, tt54) := tabIn_of a54 l54 ta54 tb54 tc54
  have e : fa = f55 := by
    have z := Option.some.inj (hfa.symm.trans (PySem.W.mg_of X G a55))
    injection z
  rw [e]
  let T : Tx l.prog K mg := {
  o_Chip := oC0
  m_Chip := PySem.W.mg_of X G oc0
  a_is_whole := f1
  d_is_whole := PySem.W.fnOf "is_whole" "is_whole" (defArgs (topS 4)) (defBody (topS 4)) (defScope (topS 4)) .none kV1 dc1 pm1 an1 cd1 ct1
  F_is_whole := fun_mk (st := (topS 4)) l1 c1 k1
  b_is_whole := (fun_mk (st := (topS 4)) l1 c1 k1).binds (ps := ["value"]) fun _ _ _ _ _ _ us hl => match us, hl with | [_], _ => rfl
  m_is_whole := PySem.W.mg_of X G a1
  a_is_integer := f2
  d_is_integer := PySem.W.fnOf "is_integer" "is_integer" (defArgs (topS 5)) (defBody (topS 5)) (defScope (topS 5)) .none kV2 dc2 pm2 an2 cd2 ct2
  F_is_integer := fun_mk (st := (topS 5)) l2 c2 k2
  b_is_integer := (fun_mk (st := (topS 5)) l2 c2 k2).binds (ps := ["value", "low", "high"]) fun _ _ _ _ _ _ us hl => match us, hl with | [_, _, _], _ => rfl
  m_is_integer := PySem.W.mg_of X G a2
  a_is_tuple := f3
  d_is_tuple := PySem.W.fnOf "is_tuple" "is_tuple" (defArgs (topS 6)) (defBody (topS 6)) (defScope (topS 6)) .none kV3 dc3 pm3 an3 cd3 ct3
  F_is_tuple := fun_mk (st := (topS 6)) l3 c3 k3
  b_is_tuple := (fun_mk (st := (topS 6)) l3 c3 k3).binds (ps := ["value", "low", "high"]) fun _ _ _ _ _ _ us hl => match us, hl with | [_, _, _], _ => rfl
  m_is_tuple := PySem.W.mg_of X G a3
  a_is_string := f4
  d_is_string := PySem.W.fnOf "is_string" "is_string" (defArgs (topS 7)) (defBody (topS 7)) (defScope (topS 7)) .none kV4 dc4 pm4 an4 cd4 ct4
  F_is_string := fun_mk (st := (topS 7)) l4 c4 k4
  b_is_string := (fun_mk (st := (topS 7)) l4 c4 k4).binds (ps := ["value", "some"]) fun _ _ _ _ _ _ us hl => match us, hl with | [_, _], _ => rfl
  m_is_string := PySem.W.mg_of X G a4
  a_are_cells := f5
  d_are_cells := PySem.W.fnOf "are_cells" "are_cells" (defArgs (topS 8)) (defBody (topS 8)) (defScope (topS 8)) .none kV5 dc5 pm5 an5 cd5 ct5
  F_are_cells := fun_mk (st := (topS 8)) l5 c5 k5
  b_are_cells := (fun_mk (st := (topS 8)) l5 c5 k5).binds (ps := ["value", "low", "high"]) fun _ _ _ _ _ _ us hl => match us, hl with | [_, _, _], _ => rfl
  m_are_cells := PySem.W.mg_of X G a5
  a_is_page := f6
  d_is_page := PySem.W.fnOf "is_page" "is_page" (defArgs (topS 9)) (defBody (topS 9)) (defScope (topS 9)) .none kV6 dc6 pm6 an6 cd6 ct6
  F_is_page := fun_mk (st := (topS 9)) l6 c6 k6
  b_is_page := (fun_mk (st := (topS 9)) l6 c6 k6).binds (ps := ["value"]) fun _ _ _ _ _ _ us hl => match us, hl with | [_], _ => rfl
  m_is_page := PySem.W.mg_of X G a6
  a_is_fault := f7
  d_is_fault := PySem.W.fnOf "is_fault" "is_fault" (defArgs (topS 31)) (defBody (topS 31)) (defScope (topS 31)) .none kV7 dc7 pm7 an7 cd7 ct7
  F_is_fault := fun_mk (st := (topS 31)) l7 c7 k7
  b_is_fault := (fun_mk (st := (topS 31)) l7 c7 k7).binds (ps := ["value"]) fun _ _ _ _ _ _ us hl => match us, hl with | [_], _ => rfl
  m_is_fault := PySem.W.mg_of X G a7
  a_are_faults := f8
  d_are_faults := PySem.W.fnOf "are_faults" "are_faults" (defArgs (topS 32)) (defBody (topS 32)) (defScope (topS 32)) .none kV8 dc8 pm8 an8 cd8 ct8
  F_are_faults := fun_mk (st := (topS 32)) l8 c8 k8
  b_are_faults := (fun_mk (st := (topS 32)) l8 c8 k8).binds (ps := ["value"]) fun _ _ _ _ _ _ us hl => match us, hl with | [_], _ => rfl
  m_are_faults := PySem.W.mg_of X G a8
  a_torn := f9
  d_torn := PySem.W.fnOf "torn" "torn" (defArgs (topS 33)) (defBody (topS 33)) (defScope (topS 33)) .none kV9 dc9 pm9 an9 cd9 ct9
  F_torn := fun_mk (st := (topS 33)) l9 c9 k9
  b_torn := (fun_mk (st := (topS 33)) l9 c9 k9).binds (ps := ["cells", "pattern"]) fun _ _ _ _ _ _ us hl => match us, hl with | [_, _], _ => rfl
  m_torn := PySem.W.mg_of X G a9
  a_Chip___init__ := f10
  d_Chip___init__ := PySem.W.fnOf "__init__" "Chip.__init__" (defArgs (inClass (topS 34) 1)) (defBody (inClass (topS 34) 1)) (defScope (inClass (topS 34) 1)) (.ref dT10) kV10 dc10 pm10 an10 cd10 ct10
  F_Chip___init__ := ⟨⟨_, _, _, _, _, _, _, _, _, _, rfl, l10, c10⟩, k10⟩
  b_Chip___init__ := bind_dflt (x := "__init__") (qual := "Chip.__init__") (params := defArgs (inClass (topS 34) 1)) (body := defBody (inClass (topS 34) 1)) (scope := defScope (inClass (topS 34) 1)) (ps := ["self", "blocks", "pages", "faults"]) (ea := ea10) l10 c10 k10 e10 (fun _ _ _ _ _ _ _ us its h1 h2 => match us, its, h1, h2 with | [_, _, _, _], [_], _, _ => ⟨_, rfl, rfl⟩)
  M_Chip := ⟨mk10, a10, i10, mc10⟩
  M_Chip_blocks := ⟨p11, a11, b11, c_11, re11, d11⟩
  a_Chip_blocks := f11
  d_Chip_blocks := PySem.W.fnOf "blocks" "Chip.blocks" (defArgs (inClass (topS 34) 2)) (defBody (inClass (topS 34) 2)) (defScope (inClass (topS 34) 2)) .none kV11 dc11 pm11 an11 cd11 ct11
  F_Chip_blocks := fun_mk (st := (inClass (topS 34) 2)) l11 c11 k11
  b_Chip_blocks := (fun_mk (st := (inClass (topS 34) 2)) l11 c11 k11).binds (ps := ["self"]) fun _ _ _ _ _ _ us hl => match us, hl with | [_], _ => rfl
  M_Chip_pages := ⟨p12, a12, b12, c_12, re12, d12⟩
  a_Chip_pages := f12
  d_Chip_pages := PySem.W.fnOf "pages" "Chip.pages" (defArgs (inClass (topS 34) 3)) (defBody (inClass (topS 34) 3)) (defScope (inClass (topS 34) 3)) .none kV12 dc12 pm12 an12 cd12 ct12
  F_Chip_pages := fun_mk (st := (inClass (topS 34) 3)) l12 c12 k12
  b_Chip_pages := (fun_mk (st := (inClass (topS 34) 3)) l12 c12 k12).binds (ps := ["self"]) fun _ _ _ _ _ _ us hl => match us, hl with | [_], _ => rfl
  M_Chip_wear := ⟨p13, a13, b13, c_13, re13, d13⟩
  a_Chip_wear := f13
  d_Chip_wear := PySem.W.fnOf "wear" "Chip.wear" (defArgs (inClass (topS 34) 4)) (defBody (inClass (topS 34) 4)) (defScope (inClass (topS 34) 4)) .none kV13 dc13 pm13 an13 cd13 ct13
  F_Chip_wear := fun_mk (st := (inClass (topS 34) 4)) l13 c13 k13
  b_Chip_wear := (fun_mk (st := (inClass (topS 34) 4)) l13 c13 k13).binds (ps := ["self"]) fun _ _ _ _ _ _ us hl => match us, hl with | [_], _ => rfl
  M_Chip_bad := ⟨p14, a14, b14, c_14, re14, d14⟩
  a_Chip_bad := f14
  d_Chip_bad := PySem.W.fnOf "bad" "Chip.bad" (defArgs (inClass (topS 34) 5)) (defBody (inClass (topS 34) 5)) (defScope (inClass (topS 34) 5)) .none kV14 dc14 pm14 an14 cd14 ct14
  F_Chip_bad := fun_mk (st := (inClass (topS 34) 5)) l14 c14 k14
  b_Chip_bad := (fun_mk (st := (inClass (topS 34) 5)) l14 c14 k14).binds (ps := ["self"]) fun _ _ _ _ _ _ us hl => match us, hl with | [_], _ => rfl
  M_Chip_done := ⟨p15, a15, b15, c_15, re15, d15⟩
  a_Chip_done := f15
  d_Chip_done := PySem.W.fnOf "done" "Chip.done" (defArgs (inClass (topS 34) 6)) (defBody (inClass (topS 34) 6)) (defScope (inClass (topS 34) 6)) .none kV15 dc15 pm15 an15 cd15 ct15
  F_Chip_done := fun_mk (st := (inClass (topS 34) 6)) l15 c15 k15
  b_Chip_done := (fun_mk (st := (inClass (topS 34) 6)) l15 c15 k15).binds (ps := ["self"]) fun _ _ _ _ _ _ us hl => match us, hl with | [_], _ => rfl
  M_Chip_cuts := ⟨p16, a16, b16, c_16, re16, d16⟩
  a_Chip_cuts := f16
  d_Chip_cuts := PySem.W.fnOf "cuts" "Chip.cuts" (defArgs (inClass (topS 34) 7)) (defBody (inClass (topS 34) 7)) (defScope (inClass (topS 34) 7)) .none kV16 dc16 pm16 an16 cd16 ct16
  F_Chip_cuts := fun_mk (st := (inClass (topS 34) 7)) l16 c16 k16
  b_Chip_cuts := (fun_mk (st := (inClass (topS 34) 7)) l16 c16 k16).binds (ps := ["self"]) fun _ _ _ _ _ _ us hl => match us, hl with | [_], _ => rfl
  M_Chip_is_on := ⟨p17, a17, b17, c_17, re17, d17⟩
  a_Chip_is_on := f17
  d_Chip_is_on := PySem.W.fnOf "is_on" "Chip.is_on" (defArgs (inClass (topS 34) 8)) (defBody (inClass (topS 34) 8)) (defScope (inClass (topS 34) 8)) .none kV17 dc17 pm17 an17 cd17 ct17
  F_Chip_is_on := fun_mk (st := (inClass (topS 34) 8)) l17 c17 k17
  b_Chip_is_on := (fun_mk (st := (inClass (topS 34) 8)) l17 c17 k17).binds (ps := ["self"]) fun _ _ _ _ _ _ us hl => match us, hl with | [_], _ => rfl
  a_Chip___eq__ := f18
  d_Chip___eq__ := PySem.W.fnOf "__eq__" "Chip.__eq__" (defArgs (inClass (topS 34) 9)) (defBody (inClass (topS 34) 9)) (defScope (inClass (topS 34) 9)) .none kV18 dc18 pm18 an18 cd18 ct18
  F_Chip___eq__ := fun_mk (st := (inClass (topS 34) 9)) l18 c18 k18
  b_Chip___eq__ := (fun_mk (st := (inClass (topS 34) 9)) l18 c18 k18).binds (ps := ["self", "other"]) fun _ _ _ _ _ _ us hl => match us, hl with | [_, _], _ => rfl
  M_Chip___eq__ := ⟨a18, i18, k18⟩
  a_Chip_check_page := f19
  d_Chip_check_page := PySem.W.fnOf "check_page" "Chip.check_page" (defArgs (inClass (topS 34) 11)) (defBody (inClass (topS 34) 11)) (defScope (inClass (topS 34) 11)) .none kV19 dc19 pm19 an19 cd19 ct19
  F_Chip_check_page := fun_mk (st := (inClass (topS 34) 11)) l19 c19 k19
  b_Chip_check_page := (fun_mk (st := (inClass (topS 34) 11)) l19 c19 k19).binds (ps := ["self", "place"]) fun _ _ _ _ _ _ us hl => match us, hl with | [_, _], _ => rfl
  M_Chip_check_page := ⟨a19, i19, k19⟩
  a_Chip_read := f20
  d_Chip_read := PySem.W.fnOf "read" "Chip.read" (defArgs (inClass (topS 34) 12)) (defBody (inClass (topS 34) 12)) (defScope (inClass (topS 34) 12)) .none kV20 dc20 pm20 an20 cd20 ct20
  F_Chip_read := fun_mk (st := (inClass (topS 34) 12)) l20 c20 k20
  b_Chip_read := (fun_mk (st := (inClass (topS 34) 12)) l20 c20 k20).binds (ps := ["self", "place"]) fun _ _ _ _ _ _ us hl => match us, hl with | [_, _], _ => rfl
  M_Chip_read := ⟨a20, i20, k20⟩
  a_Chip_begin_deed := f21
  d_Chip_begin_deed := PySem.W.fnOf "begin_deed" "Chip.begin_deed" (defArgs (inClass (topS 34) 13)) (defBody (inClass (topS 34) 13)) (defScope (inClass (topS 34) 13)) .none kV21 dc21 pm21 an21 cd21 ct21
  F_Chip_begin_deed := fun_mk (st := (inClass (topS 34) 13)) l21 c21 k21
  b_Chip_begin_deed := (fun_mk (st := (inClass (topS 34) 13)) l21 c21 k21).binds (ps := ["self"]) fun _ _ _ _ _ _ us hl => match us, hl with | [_], _ => rfl
  M_Chip_begin_deed := ⟨a21, i21, k21⟩
  a_Chip_end_deed := f22
  d_Chip_end_deed := PySem.W.fnOf "end_deed" "Chip.end_deed" (defArgs (inClass (topS 34) 14)) (defBody (inClass (topS 34) 14)) (defScope (inClass (topS 34) 14)) .none kV22 dc22 pm22 an22 cd22 ct22
  F_Chip_end_deed := fun_mk (st := (inClass (topS 34) 14)) l22 c22 k22
  b_Chip_end_deed := (fun_mk (st := (inClass (topS 34) 14)) l22 c22 k22).binds (ps := ["self", "block", "word"]) fun _ _ _ _ _ _ us hl => match us, hl with | [_, _, _], _ => rfl
  M_Chip_end_deed := ⟨a22, i22, k22⟩
  a_Chip_write := f23
  d_Chip_write := PySem.W.fnOf "write" "Chip.write" (defArgs (inClass (topS 34) 15)) (defBody (inClass (topS 34) 15)) (defScope (inClass (topS 34) 15)) .none kV23 dc23 pm23 an23 cd23 ct23
  F_Chip_write := fun_mk (st := (inClass (topS 34) 15)) l23 c23 k23
  b_Chip_write := (fun_mk (st := (inClass (topS 34) 15)) l23 c23 k23).binds (ps := ["self", "place", "cells"]) fun _ _ _ _ _ _ us hl => match us, hl with | [_, _, _], _ => rfl
  M_Chip_write := ⟨a23, i23, k23⟩
  a_Chip_erase := f24
  d_Chip_erase := PySem.W.fnOf "erase" "Chip.erase" (defArgs (inClass (topS 34) 16)) (defBody (inClass (topS 34) 16)) (defScope (inClass (topS 34) 16)) .none kV24 dc24 pm24 an24 cd24 ct24
  F_Chip_erase := fun_mk (st := (inClass (topS 34) 16)) l24 c24 k24
  b_Chip_erase := (fun_mk (st := (inClass (topS 34) 16)) l24 c24 k24).binds (ps := ["self", "block"]) fun _ _ _ _ _ _ us hl => match us, hl with | [_, _], _ => rfl
  M_Chip_erase := ⟨a24, i24, k24⟩
  a_Chip_fault := f25
  d_Chip_fault := PySem.W.fnOf "fault" "Chip.fault" (defArgs (inClass (topS 34) 18)) (defBody (inClass (topS 34) 18)) (defScope (inClass (topS 34) 18)) .none kV25 dc25 pm25 an25 cd25 ct25
  F_Chip_fault := fun_mk (st := (inClass (topS 34) 18)) l25 c25 k25
  b_Chip_fault := (fun_mk (st := (inClass (topS 34) 18)) l25 c25 k25).binds (ps := ["self", "ahead", "word", "pattern"]) fun _ _ _ _ _ _ us hl => match us, hl with | [_, _, _, _], _ => rfl
  M_Chip_fault := ⟨a25, i25, k25⟩
  a_Chip_can_fade := f26
  d_Chip_can_fade := PySem.W.fnOf "can_fade" "Chip.can_fade" (defArgs (inClass (topS 34) 19)) (defBody (inClass (topS 34) 19)) (defScope (inClass (topS 34) 19)) .none kV26 dc26 pm26 an26 cd26 ct26
  F_Chip_can_fade := fun_mk (st := (inClass (topS 34) 19)) l26 c26 k26
  b_Chip_can_fade := (fun_mk (st := (inClass (topS 34) 19)) l26 c26 k26).binds (ps := ["self", "place", "cell", "sign"]) fun _ _ _ _ _ _ us hl => match us, hl with | [_, _, _, _], _ => rfl
  M_Chip_can_fade := ⟨a26, i26, k26⟩
  a_Chip_fade := f27
  d_Chip_fade := PySem.W.fnOf "fade" "Chip.fade" (defArgs (inClass (topS 34) 20)) (defBody (inClass (topS 34) 20)) (defScope (inClass (topS 34) 20)) .none kV27 dc27 pm27 an27 cd27 ct27
  F_Chip_fade := fun_mk (st := (inClass (topS 34) 20)) l27 c27 k27
  b_Chip_fade := (fun_mk (st := (inClass (topS 34) 20)) l27 c27 k27).binds (ps := ["self", "place", "cell", "sign"]) fun _ _ _ _ _ _ us hl => match us, hl with | [_, _, _, _], _ => rfl
  M_Chip_fade := ⟨a27, i27, k27⟩
  a_Chip_image := f28
  d_Chip_image := PySem.W.fnOf "image" "Chip.image" (defArgs (inClass (topS 34) 21)) (defBody (inClass (topS 34) 21)) (defScope (inClass (topS 34) 21)) .none kV28 dc28 pm28 an28 cd28 ct28
  F_Chip_image := fun_mk (st := (inClass (topS 34) 21)) l28 c28 k28
  b_Chip_image := (fun_mk (st := (inClass (topS 34) 21)) l28 c28 k28).binds (ps := ["self"]) fun _ _ _ _ _ _ us hl => match us, hl with | [_], _ => rfl
  M_Chip_image := ⟨a28, i28, k28⟩
  a__law_pot := f29
  d__law_pot := PySem.W.fnOf "_law_pot" "_law_pot" (defArgs (topS 36)) (defBody (topS 36)) (defScope (topS 36)) .none kV29 dc29 pm29 an29 cd29 ct29
  F__law_pot := fun_mk (st := (topS 36)) l29 c29 k29
  b__law_pot := (fun_mk (st := (topS 36)) l29 c29 k29).binds (ps := ["script", "place"]) fun _ _ _ _ _ _ us hl => match us, hl with | [_, _], _ => rfl
  m__law_pot := PySem.W.mg_of X G a29
  a__law_take := f30
  d__law_take := PySem.W.fnOf "_law_take" "_law_take" (defArgs (topS 37)) (defBody (topS 37)) (defScope (topS 37)) .none kV30 dc30 pm30 an30 cd30 ct30
  F__law_take := fun_mk (st := (topS 37)) l30 c30 k30
  b__law_take := (fun_mk (st := (topS 37)) l30 c30 k30).binds (ps := ["pot", "upto"]) fun _ _ _ _ _ _ us hl => match us, hl with | [_, _], _ => rfl
  m__law_take := PySem.W.mg_of X G a30
  a__law_of := f31
  d__law_of := PySem.W.fnOf "_law_of" "_law_of" (defArgs (topS 38)) (defBody (topS 38)) (defScope (topS 38)) .none kV31 dc31 pm31 an31 cd31 ct31
  F__law_of := fun_mk (st := (topS 38)) l31 c31 k31
  b__law_of := (fun_mk (st := (topS 38)) l31 c31 k31).binds (ps := ["pot", "some"]) fun _ _ _ _ _ _ us hl => match us, hl with | [_, _], _ => rfl
  m__law_of := PySem.W.mg_of X G a31
  a__law_cells := f32
  d__law_cells := PySem.W.fnOf "_law_cells" "_law_cells" (defArgs (topS 39)) (defBody (topS 39)) (defScope (topS 39)) .none kV32 dc32 pm32 an32 cd32 ct32
  F__law_cells := fun_mk (st := (topS 39)) l32 c32 k32
  b__law_cells := (fun_mk (st := (topS 39)) l32 c32 k32).binds (ps := ["script", "most"]) fun _ _ _ _ _ _ us hl => match us, hl with | [_, _], _ => rfl
  m__law_cells := PySem.W.mg_of X G a32
  a__law_heard := f33
  d__law_heard := PySem.W.fnOf "_law_heard" "_law_heard" (defArgs (topS 40)) (defBody (topS 40)) (defScope (topS 40)) .none kV33 dc33 pm33 an33 cd33 ct33
  F__law_heard := fun_mk (st := (topS 40)) l33 c33 k33
  b__law_heard := (fun_mk (st := (topS 40)) l33 c33 k33).binds (ps := ["call"]) fun _ _ _ _ _ _ us hl => match us, hl with | [_], _ => rfl
  m__law_heard := PySem.W.mg_of X G a33
  a__law_is_int := f34
  d__law_is_int := PySem.W.fnOf "_law_is_int" "_law_is_int" (defArgs (topS 41)) (defBody (topS 41)) (defScope (topS 41)) .none kV34 dc34 pm34 an34 cd34 ct34
  F__law_is_int := fun_mk (st := (topS 41)) l34 c34 k34
  b__law_is_int := (fun_mk (st := (topS 41)) l34 c34 k34).binds (ps := ["value", "low", "high"]) fun _ _ _ _ _ _ us hl => match us, hl with | [_, _, _], _ => rfl
  m__law_is_int := PySem.W.mg_of X G a34
  a__law_chip_begun := f35
  d__law_chip_begun := PySem.W.fnOf "_law_chip_begun" "_law_chip_begun" (defArgs (topS 42)) (defBody (topS 42)) (defScope (topS 42)) .none kV35 dc35 pm35 an35 cd35 ct35
  F__law_chip_begun := fun_mk (st := (topS 42)) l35 c35 k35
  b__law_chip_begun := (fun_mk (st := (topS 42)) l35 c35 k35).binds (ps := ["blocks", "pages", "faults"]) fun _ _ _ _ _ _ us hl => match us, hl with | [_, _, _], _ => rfl
  m__law_chip_begun := PySem.W.mg_of X G a35
  a__law_chip_is_cells := f36
  d__law_chip_is_cells := PySem.W.fnOf "_law_chip_is_cells" "_law_chip_is_cells" (defArgs (topS 43)) (defBody (topS 43)) (defScope (topS 43)) .none kV36 dc36 pm36 an36 cd36 ct36
  F__law_chip_is_cells := fun_mk (st := (topS 43)) l36 c36 k36
  b__law_chip_is_cells := (fun_mk (st := (topS 43)) l36 c36 k36).binds (ps := ["value", "low", "high"]) fun _ _ _ _ _ _ us hl => match us, hl with | [_, _, _], _ => rfl
  m__law_chip_is_cells := PySem.W.mg_of X G a36
  a__law_chip_are_faults := f37
  d__law_chip_are_faults := PySem.W.fnOf "_law_chip_are_faults" "_law_chip_are_faults" (defArgs (topS 44)) (defBody (topS 44)) (defScope (topS 44)) .none kV37 dc37 pm37 an37 cd37 ct37
  F__law_chip_are_faults := fun_mk (st := (topS 44)) l37 c37 k37
  b__law_chip_are_faults := (fun_mk (st := (topS 44)) l37 c37 k37).binds (ps := ["value"]) fun _ _ _ _ _ _ us hl => match us, hl with | [_], _ => rfl
  m__law_chip_are_faults := PySem.W.mg_of X G a37
  a__law_chip_torn := f38
  d__law_chip_torn := PySem.W.fnOf "_law_chip_torn" "_law_chip_torn" (defArgs (topS 45)) (defBody (topS 45)) (defScope (topS 45)) .none kV38 dc38 pm38 an38 cd38 ct38
  F__law_chip_torn := fun_mk (st := (topS 45)) l38 c38 k38
  b__law_chip_torn := (fun_mk (st := (topS 45)) l38 c38 k38).binds (ps := ["cells", "pattern"]) fun _ _ _ _ _ _ us hl => match us, hl with | [_, _], _ => rfl
  m__law_chip_torn := PySem.W.mg_of X G a38
  a__law_chip_fault := f39
  d__law_chip_fault := PySem.W.fnOf "_law_chip_fault" "_law_chip_fault" (defArgs (topS 46)) (defBody (topS 46)) (defScope (topS 46)) .none kV39 dc39 pm39 an39 cd39 ct39
  F__law_chip_fault := fun_mk (st := (topS 46)) l39 c39 k39
  b__law_chip_fault := (fun_mk (st := (topS 46)) l39 c39 k39).binds (ps := ["own"]) fun _ _ _ _ _ _ us hl => match us, hl with | [_], _ => rfl
  m__law_chip_fault := PySem.W.mg_of X G a39
  a__law_chip_deed := f40
  d__law_chip_deed := PySem.W.fnOf "_law_chip_deed" "_law_chip_deed" (defArgs (topS 47)) (defBody (topS 47)) (defScope (topS 47)) .none kV40 dc40 pm40 an40 cd40 ct40
  F__law_chip_deed := fun_mk (st := (topS 47)) l40 c40 k40
  b__law_chip_deed := (fun_mk (st := (topS 47)) l40 c40 k40).binds (ps := ["own", "block", "word"]) fun _ _ _ _ _ _ us hl => match us, hl with | [_, _, _], _ => rfl
  m__law_chip_deed := PySem.W.mg_of X G a40
  a__law_chip_written := f41
  d__law_chip_written := PySem.W.fnOf "_law_chip_written" "_law_chip_written" (defArgs (topS 48)) (defBody (topS 48)) (defScope (topS 48)) .none kV41 dc41 pm41 an41 cd41 ct41
  F__law_chip_written := fun_mk (st := (topS 48)) l41 c41 k41
  b__law_chip_written := (fun_mk (st := (topS 48)) l41 c41 k41).binds (ps := ["own", "place", "cells"]) fun _ _ _ _ _ _ us hl => match us, hl with | [_, _, _], _ => rfl
  m__law_chip_written := PySem.W.mg_of X G a41
  a__law_chip_erased := f42
  d__law_chip_erased := PySem.W.fnOf "_law_chip_erased" "_law_chip_erased" (defArgs (topS 49)) (defBody (topS 49)) (defScope (topS 49)) .none kV42 dc42 pm42 an42 cd42 ct42
  F__law_chip_erased := fun_mk (st := (topS 49)) l42 c42 k42
  b__law_chip_erased := (fun_mk (st := (topS 49)) l42 c42 k42).binds (ps := ["own", "block"]) fun _ _ _ _ _ _ us hl => match us, hl with | [_, _], _ => rfl
  m__law_chip_erased := PySem.W.mg_of X G a42
  a__law_chip_can_fade := f43
  d__law_chip_can_fade := PySem.W.fnOf "_law_chip_can_fade" "_law_chip_can_fade" (defArgs (topS 50)) (defBody (topS 50)) (defScope (topS 50)) .none kV43 dc43 pm43 an43 cd43 ct43
  F__law_chip_can_fade := fun_mk (st := (topS 50)) l43 c43 k43
  b__law_chip_can_fade := (fun_mk (st := (topS 50)) l43 c43 k43).binds (ps := ["own", "place", "cell", "sign"]) fun _ _ _ _ _ _ us hl => match us, hl with | [_, _, _, _], _ => rfl
  m__law_chip_can_fade := PySem.W.mg_of X G a43
  a__law_chip_faded := f44
  d__law_chip_faded := PySem.W.fnOf "_law_chip_faded" "_law_chip_faded" (defArgs (topS 51)) (defBody (topS 51)) (defScope (topS 51)) .none kV44 dc44 pm44 an44 cd44 ct44
  F__law_chip_faded := fun_mk (st := (topS 51)) l44 c44 k44
  b__law_chip_faded := (fun_mk (st := (topS 51)) l44 c44 k44).binds (ps := ["own", "place", "cell", "sign"]) fun _ _ _ _ _ _ us hl => match us, hl with | [_, _, _, _], _ => rfl
  m__law_chip_faded := PySem.W.mg_of X G a44
  a__law_chip_is_told := f45
  d__law_chip_is_told := PySem.W.fnOf "_law_chip_is_told" "_law_chip_is_told" (defArgs (topS 52)) (defBody (topS 52)) (defScope (topS 52)) .none kV45 dc45 pm45 an45 cd45 ct45
  F__law_chip_is_told := fun_mk (st := (topS 52)) l45 c45 k45
  b__law_chip_is_told := (fun_mk (st := (topS 52)) l45 c45 k45).binds (ps := ["chip", "own"]) fun _ _ _ _ _ _ us hl => match us, hl with | [_, _], _ => rfl
  m__law_chip_is_told := PySem.W.mg_of X G a45
  a__law_chip_pattern := f46
  d__law_chip_pattern := PySem.W.fnOf "_law_chip_pattern" "_law_chip_pattern" (defArgs (topS 53)) (defBody (topS 53)) (defScope (topS 53)) .none kV46 dc46 pm46 an46 cd46 ct46
  F__law_chip_pattern := fun_mk (st := (topS 53)) l46 c46 k46
  b__law_chip_pattern := (fun_mk (st := (topS 53)) l46 c46 k46).binds (ps := ["pot"]) fun _ _ _ _ _ _ us hl => match us, hl with | [_], _ => rfl
  m__law_chip_pattern := PySem.W.mg_of X G a46
  a__law_chip_page := f47
  d__law_chip_page := PySem.W.fnOf "_law_chip_page" "_law_chip_page" (defArgs (topS 54)) (defBody (topS 54)) (defScope (topS 54)) .none kV47 dc47 pm47 an47 cd47 ct47
  F__law_chip_page := fun_mk (st := (topS 54)) l47 c47 k47
  b__law_chip_page := (fun_mk (st := (topS 54)) l47 c47 k47).binds (ps := ["pot"]) fun _ _ _ _ _ _ us hl => match us, hl with | [_], _ => rfl
  m__law_chip_page := PySem.W.mg_of X G a47
  a__law_is_raised := f48
  d__law_is_raised := PySem.W.fnOf "_law_is_raised" "_law_is_raised" (defArgs (topS 55)) (defBody (topS 55)) (defScope (topS 55)) .none kV48 dc48 pm48 an48 cd48 ct48
  F__law_is_raised := fun_mk (st := (topS 55)) l48 c48 k48
  b__law_is_raised := (fun_mk (st := (topS 55)) l48 c48 k48).binds (ps := ["call", "due"]) fun _ _ _ _ _ _ us hl => match us, hl with | [_, _], _ => rfl
  m__law_is_raised := PySem.W.mg_of X G a48
  a__law_are_sizes_right := f49
  d__law_are_sizes_right := PySem.W.fnOf "_law_are_sizes_right" "_law_are_sizes_right" (defArgs (topS 56)) (defBody (topS 56)) (defScope (topS 56)) .none kV49 dc49 pm49 an49 cd49 ct49
  F__law_are_sizes_right := fun_mk (st := (topS 56)) l49 c49 k49
  b__law_are_sizes_right := (fun_mk (st := (topS 56)) l49 c49 k49).binds (ps := ["pot"]) fun _ _ _ _ _ _ us hl => match us, hl with | [_], _ => rfl
  m__law_are_sizes_right := PySem.W.mg_of X G a49
  q__law_are_sizes_right := tq49
  t__law_are_sizes_right := tt49
  c__law_are_sizes_right := ta49
  a__law_write_due := f50
  d__law_write_due := PySem.W.fnOf "_law_write_due" "_law_write_due" (defArgs (topS 57)) (defBody (topS 57)) (defScope (topS 57)) .none kV50 dc50 pm50 an50 cd50 ct50
  F__law_write_due := fun_mk (st := (topS 57)) l50 c50 k50
  b__law_write_due := (fun_mk (st := (topS 57)) l50 c50 k50).binds (ps := ["own", "place", "cells"]) fun _ _ _ _ _ _ us hl => match us, hl with | [_, _, _], _ => rfl
  m__law_write_due := PySem.W.mg_of X G a50
  a__law_fault_drawn := f51
  d__law_fault_drawn := PySem.W.fnOf "_law_fault_drawn" "_law_fault_drawn" (defArgs (topS 58)) (defBody (topS 58)) (defScope (topS 58)) .none kV51 dc51 pm51 an51 cd51 ct51
  F__law_fault_drawn := fun_mk (st := (topS 58)) l51 c51 k51
  b__law_fault_drawn := (fun_mk (st := (topS 58)) l51 c51 k51).binds (ps := ["pot"]) fun _ _ _ _ _ _ us hl => match us, hl with | [_], _ => rfl
  m__law_fault_drawn := PySem.W.mg_of X G a51
  a__law_fault_due := f52
  d__law_fault_due := PySem.W.fnOf "_law_fault_due" "_law_fault_due" (defArgs (topS 59)) (defBody (topS 59)) (defScope (topS 59)) .none kV52 dc52 pm52 an52 cd52 ct52
  F__law_fault_due := fun_mk (st := (topS 59)) l52 c52 k52
  b__law_fault_due := (fun_mk (st := (topS 59)) l52 c52 k52).binds (ps := ["own", "told"]) fun _ _ _ _ _ _ us hl => match us, hl with | [_, _], _ => rfl
  m__law_fault_due := PySem.W.mg_of X G a52
  a__law_is_fault_right := f53
  d__law_is_fault_right := PySem.W.fnOf "_law_is_fault_right" "_law_is_fault_right" (defArgs (topS 60)) (defBody (topS 60)) (defScope (topS 60)) .none kV53 dc53 pm53 an53 cd53 ct53
  F__law_is_fault_right := fun_mk (st := (topS 60)) l53 c53 k53
  b__law_is_fault_right := (fun_mk (st := (topS 60)) l53 c53 k53).binds (ps := ["pot", "chip", "own"]) fun _ _ _ _ _ _ us hl => match us, hl with | [_, _, _], _ => rfl
  m__law_is_fault_right := PySem.W.mg_of X G a53
  q__law_is_fault_right := tq53
  t__law_is_fault_right := tt53
  c__law_is_fault_right := ta53
  a__law_right := f54
  d__law_right := PySem.W.fnOf "_law_right" "_law_right" (defArgs (topS 61)) (defBody (topS 61)) (defScope (topS 61)) .none kV54 dc54 pm54 an54 cd54 ct54
  F__law_right := fun_mk (st := (topS 61)) l54 c54 k54
  b__law_right := (fun_mk (st := (topS 61)) l54 c54 k54).binds (ps := ["pot"]) fun _ _ _ _ _ _ us hl => match us, hl with | [_], _ => rfl
  m__law_right := PySem.W.mg_of X G a54
  q__law_right := tq54
  t__law_right := tt54
  c__law_right := ta54
  a_law := f55
  d_law := PySem.W.fnOf "law" "law" (defArgs (topS 62)) (defBody (topS 62)) (defScope (topS 62)) .none kV55 dc55 pm55 an55 cd55 ct55
  F_law := fun_mk (st := (topS 62)) l55 c55 k55
  b_law := (fun_mk (st := (topS 62)) l55 c55 k55).binds (ps := ["script"]) fun _ _ _ _ _ _ us hl => match us, hl with | [_], _ => rfl
  m_law := PySem.W.mg_of X G a55
  aD := aD
  fI := fI
  cc := cc
  mD := PySem.W.mg_of X G zD
  TG := ⟨zg, zh⟩
  TD := ⟨PySem.W.mg_none_of X G zs, zt, zc, Option.isSome_iff_exists.mp (show (PySem.W.clsIn K aD).isSome = true from zx), ⟨_, _, _, zk⟩, zI, _, _, _, _, _, _, _, _, _, _, _, _, _, _, _, _, _, _, _, _, zf, zo, (fun _ _ _ _ => ⟨_, rfl⟩), _, _, _, _, _, _, zu, zv, zw⟩
  e_BadBlock := eC0
  m_BadBlock := PySem.W.mg_of X G xa_0
  T_BadBlock := ⟨⟨_, _, _, _, _, _, _, _, _, _, _, _, _, _, _, xl_0, xr_0⟩, xs_0, xm_0, xv_0, xi_0, xt_0, xg_0, xh_0, xn_0, xj_0, xk_0, xe_0, xy_0, xd_0⟩
  I_BadBlock := ⟨xp_0, xq_0, xo_0⟩
  x_BadBlock := xx_0
  e_BadCells := eC1
  m_BadCells := PySem.W.mg_of X G xa_1
  T_BadCells := ⟨⟨_, _, _, _, _, _, _, _, _, _, _, _, _, _, _, xl_1, xr_1⟩, xs_1, xm_1, xv_1, xi_1, xt_1, xg_1, xh_1, xn_1, xj_1, xk_1, xe_1, xy_1, xd_1⟩
  I_BadCells := ⟨xp_1, xq_1, xo_1⟩
  x_BadCells := xx_1
  e_BadFade := eC2
  m_BadFade := PySem.W.mg_of X G xa_2
  T_BadFade := ⟨⟨_, _, _, _, _, _, _, _, _, _, _, _, _, _, _, xl_2, xr_2⟩, xs_2, xm_2, xv_2, xi_2, xt_2, xg_2, xh_2, xn_2, xj_2, xk_2, xe_2, xy_2, xd_2⟩
  I_BadFade := ⟨xp_2, xq_2, xo_2⟩
  x_BadFade := xx_2
  e_BadFault := eC3
  m_BadFault := PySem.W.mg_of X G xa_3
  T_BadFault := ⟨⟨_, _, _, _, _, _, _, _, _, _, _, _, _, _, _, xl_3, xr_3⟩, xs_3, xm_3, xv_3, xi_3, xt_3, xg_3, xh_3, xn_3, xj_3, xk_3, xe_3, xy_3, xd_3⟩
  I_BadFault := ⟨xp_3, xq_3, xo_3⟩
  x_BadFault := xx_3
  e_BadFaults := eC4
  m_BadFaults := PySem.W.mg_of X G xa_4
  T_BadFaults := ⟨⟨_, _, _, _, _, _, _, _, _, _, _, _, _, _, _, xl_4, xr_4⟩, xs_4, xm_4, xv_4, xi_4, xt_4, xg_4, xh_4, xn_4, xj_4, xk_4, xe_4, xy_4, xd_4⟩
  I_BadFaults := ⟨xp_4, xq_4, xo_4⟩
  x_BadFaults := xx_4
  e_BadPlace := eC5
  m_BadPlace := PySem.W.mg_of X G xa_5
  T_BadPlace := ⟨⟨_, _, _, _, _, _, _, _, _, _, _, _, _, _, _, xl_5, xr_5⟩, xs_5, xm_5, xv_5, xi_5, xt_5, xg_5, xh_5, xn_5, xj_5, xk_5, xe_5, xy_5, xd_5⟩
  I_BadPlace := ⟨xp_5, xq_5, xo_5⟩
  x_BadPlace := xx_5
  e_BadSize := eC6
  m_BadSize := PySem.W.mg_of X G xa_6
  T_BadSize := ⟨⟨_, _, _, _, _, _, _, _, _, _, _, _, _, _, _, xl_6, xr_6⟩, xs_6, xm_6, xv_6, xi_6, xt_6, xg_6, xh_6, xn_6, xj_6, xk_6, xe_6, xy_6, xd_6⟩
  I_BadSize := ⟨xp_6, xq_6, xo_6⟩
  x_BadSize := xx_6
  e_Cut := eC7
  m_Cut := PySem.W.mg_of X G xa_7
  T_Cut := ⟨⟨_, _, _, _, _, _, _, _, _, _, _, _, _, _, _, xl_7, xr_7⟩, xs_7, xm_7, xv_7, xi_7, xt_7, xg_7, xh_7, xn_7, xj_7, xk_7, xe_7, xy_7, xd_7⟩
  I_Cut := ⟨xp_7, xq_7, xo_7⟩
  x_Cut := xx_7
  e_NotEmpty := eC8
  m_NotEmpty := PySem.W.mg_of X G xa_8
  T_NotEmpty := ⟨⟨_, _, _, _, _, _, _, _, _, _, _, _, _, _, _, xl_8, xr_8⟩, xs_8, xm_8, xv_8, xi_8, xt_8, xg_8, xh_8, xn_8, xj_8, xk_8, xe_8, xy_8, xd_8⟩
  I_NotEmpty := ⟨xp_8, xq_8, xo_8⟩
  x_NotEmpty := xx_8
  e_Pending := eC9
  m_Pending := PySem.W.mg_of X G xa_9
  T_Pending := ⟨⟨_, _, _, _, _, _, _, _, _, _, _, _, _, _, _, xl_9, xr_9⟩, xs_9, xm_9, xv_9, xi_9, xt_9, xg_9, xh_9, xn_9, xj_9, xk_9, xe_9, xy_9, xd_9⟩
  I_Pending := ⟨xp_9, xq_9, xo_9⟩
  x_Pending := xx_9
  k_BadBlock_BadBlock := y0_0
  k_BadBlock_BadCells := y0_1
  k_BadBlock_BadFade := y0_2
  k_BadBlock_BadFault := y0_3
  k_BadBlock_BadFaults := y0_4
  k_BadBlock_BadPlace := y0_5
  k_BadBlock_BadSize := y0_6
  k_BadBlock_Cut := y0_7
  k_BadBlock_NotEmpty := y0_8
  k_BadBlock_Pending := y0_9
  k_BadCells_BadBlock := y1_0
  k_BadCells_BadCells := y1_1
  k_BadCells_BadFade := y1_2
  k_BadCells_BadFault := y1_3
  k_BadCells_BadFaults := y1_4
  k_BadCells_BadPlace := y1_5
  k_BadCells_BadSize := y1_6
  k_BadCells_Cut := y1_7
  k_BadCells_NotEmpty := y1_8
  k_BadCells_Pending := y1_9
  k_BadFade_BadBlock := y2_0
  k_BadFade_BadCells := y2_1
  k_BadFade_BadFade := y2_2
  k_BadFade_BadFault := y2_3
  k_BadFade_BadFaults := y2_4
  k_BadFade_BadPlace := y2_5
  k_BadFade_BadSize := y2_6
  k_BadFade_Cut := y2_7
  k_BadFade_NotEmpty := y2_8
  k_BadFade_Pending := y2_9
  k_BadFault_BadBlock := y3_0
  k_BadFault_BadCells := y3_1
  k_BadFault_BadFade := y3_2
  k_BadFault_BadFault := y3_3
  k_BadFault_BadFaults := y3_4
  k_BadFault_BadPlace := y3_5
  k_BadFault_BadSize := y3_6
  k_BadFault_Cut := y3_7
  k_BadFault_NotEmpty := y3_8
  k_BadFault_Pending := y3_9
  k_BadFaults_BadBlock := y4_0
  k_BadFaults_BadCells := y4_1
  k_BadFaults_BadFade := y4_2
  k_BadFaults_BadFault := y4_3
  k_BadFaults_BadFaults := y4_4
  k_BadFaults_BadPlace := y4_5
  k_BadFaults_BadSize := y4_6
  k_BadFaults_Cut := y4_7
  k_BadFaults_NotEmpty := y4_8
  k_BadFaults_Pending := y4_9
  k_BadPlace_BadBlock := y5_0
  k_BadPlace_BadCells := y5_1
  k_BadPlace_BadFade := y5_2
  k_BadPlace_BadFault := y5_3
  k_BadPlace_BadFaults := y5_4
  k_BadPlace_BadPlace := y5_5
  k_BadPlace_BadSize := y5_6
  k_BadPlace_Cut := y5_7
  k_BadPlace_NotEmpty := y5_8
  k_BadPlace_Pending := y5_9
  k_BadSize_BadBlock := y6_0
  k_BadSize_BadCells := y6_1
  k_BadSize_BadFade := y6_2
  k_BadSize_BadFault := y6_3
  k_BadSize_BadFaults := y6_4
  k_BadSize_BadPlace := y6_5
  k_BadSize_BadSize := y6_6
  k_BadSize_Cut := y6_7
  k_BadSize_NotEmpty := y6_8
  k_BadSize_Pending := y6_9
  k_Cut_BadBlock := y7_0
  k_Cut_BadCells := y7_1
  k_Cut_BadFade := y7_2
  k_Cut_BadFault := y7_3
  k_Cut_BadFaults := y7_4
  k_Cut_BadPlace := y7_5
  k_Cut_BadSize := y7_6
  k_Cut_Cut := y7_7
  k_Cut_NotEmpty := y7_8
  k_Cut_Pending := y7_9
  k_NotEmpty_BadBlock := y8_0
  k_NotEmpty_BadCells := y8_1
  k_NotEmpty_BadFade := y8_2
  k_NotEmpty_BadFault := y8_3
  k_NotEmpty_BadFaults := y8_4
  k_NotEmpty_BadPlace := y8_5
  k_NotEmpty_BadSize := y8_6
  k_NotEmpty_Cut := y8_7
  k_NotEmpty_NotEmpty := y8_8
  k_NotEmpty_Pending := y8_9
  k_Pending_BadBlock := y9_0
  k_Pending_BadCells := y9_1
  k_Pending_BadFade := y9_2
  k_Pending_BadFault := y9_3
  k_Pending_BadFaults := y9_4
  k_Pending_BadPlace := y9_5
  k_Pending_BadSize := y9_6
  k_Pending_Cut := y9_7
  k_Pending_NotEmpty := y9_8
  k_Pending_Pending := y9_9
  S_Chip := ⟨saoC0, sboC0, scoC0, sdoC0⟩
  p_Chip_own_bad := psoC0_0
  s_Chip_own_bad := ⟨vaoC0_0, vboC0_0, vcoC0_0, vdoC0_0, veoC0_0, by decide⟩
  p_Chip_own_blocks := psoC0_1
  s_Chip_own_blocks := ⟨vaoC0_1, vboC0_1, vcoC0_1, vdoC0_1, veoC0_1, by decide⟩
  p_Chip_own_cells := psoC0_2
  s_Chip_own_cells := ⟨vaoC0_2, vboC0_2, vcoC0_2, vdoC0_2, veoC0_2, by decide⟩
  p_Chip_own_cuts := psoC0_3
  s_Chip_own_cuts := ⟨vaoC0_3, vboC0_3, vcoC0_3, vdoC0_3, veoC0_3, by decide⟩
  p_Chip_own_done := psoC0_4
  s_Chip_own_done := ⟨vaoC0_4, vboC0_4, vcoC0_4, vdoC0_4, veoC0_4, by decide⟩
  p_Chip_own_faults := psoC0_5
  s_Chip_own_faults := ⟨vaoC0_5, vboC0_5, vcoC0_5, vdoC0_5, veoC0_5, by decide⟩
  p_Chip_own_is_on := psoC0_6
  s_Chip_own_is_on := ⟨vaoC0_6, vboC0_6, vcoC0_6, vdoC0_6, veoC0_6, by decide⟩
  p_Chip_own_pages := psoC0_7
  s_Chip_own_pages := ⟨vaoC0_7, vboC0_7, vcoC0_7, vdoC0_7, veoC0_7, by decide⟩
  p_Chip_own_wear := psoC0_8
  s_Chip_own_wear := ⟨vaoC0_8, vboC0_8, vcoC0_8, vdoC0_8, veoC0_8, by decide⟩
  p_Chip_own_written := psoC0_9
  s_Chip_own_written := ⟨vaoC0_9, vboC0_9, vcoC0_9, vdoC0_9, veoC0_9, by decide⟩
  m_len := PySem.W.mg_none_of X G z56
  m_all := PySem.W.mg_none_of X G z57
  m_isinstance := PySem.W.mg_none_of X G z58
  m_sum := PySem.W.mg_none_of X G z59
  m_abs := PySem.W.mg_none_of X G z60
  m_max := PySem.W.mg_none_of X G z61
  m_min := PySem.W.mg_none_of X G z62
  m_repr := PySem.W.mg_none_of X G z63
  m_sorted := PySem.W.mg_none_of X G z64
  m_int := PySem.W.mg_none_of X G z65
  m_set := PySem.W.mg_none_of X G z66
  m_bool := PySem.W.mg_none_of X G z67
  m_str := PySem.W.mg_none_of X G z68
  m_tuple := PySem.W.mg_none_of X G z69
  m_list := PySem.W.mg_none_of X G z70
  m_dict := PySem.W.mg_none_of X G z71
  m_range := PySem.W.mg_none_of X G z72
  m_zip := PySem.W.mg_none_of X G z73
  m_enumerate := PySem.W.mg_none_of X G z74
  c_CELLS := ⟨t75, by rw [← e_75]; exact PySem.W.mg_of X G z75⟩
  c_CELLS_A_PAGE := ⟨t76, PySem.W.mg_of X G z76⟩
  c_LEAST_BLOCKS := ⟨t77, PySem.W.mg_of X G z77⟩
  c_MOST_BLOCKS := ⟨t78, PySem.W.mg_of X G z78⟩
  c_LEAST_PAGES := ⟨t79, PySem.W.mg_of X G z79⟩
  c_MOST_PAGES := ⟨t80, PySem.W.mg_of X G z80⟩
  c_EMPTY := ⟨t81, by rw [← e_81]; exact PySem.W.mg_of X G z81⟩
  c_CUT := ⟨t82, by rw [← e_82]; exact PySem.W.mg_of X G z82⟩
  c_BAD := ⟨t83, by rw [← e_83]; exact PySem.W.mg_of X G z83⟩
  c_TRIPLE := ⟨t84, PySem.W.mg_of X G z84⟩ }
  rw [tabP_of t49, tabP_of t53, tabP_of t54]
  refine ⟨List.forall_mem_cons.mpr ⟨⟨PySem.W.codeHd_of_K X td49, hts _ tf49⟩, List.forall_mem_cons.mpr ⟨⟨PySem.W.codeHd_of_K X td53, hts _ tf53⟩, List.forall_mem_cons.mpr ⟨⟨PySem.W.codeHd_of_K X td54, hts _ tf54⟩, fun _ h => nomatch h⟩⟩⟩, List.forall_mem_cons.mpr ⟨te49, List.forall_mem_cons.mpr ⟨te53, List.forall_mem_cons.mpr ⟨te54, fun _ h => nomatch h⟩⟩⟩, tg, T.d_law, fun s v => .of_eq rfl, fun base _ _ tb => ?_⟩
  exact ok_law T (tb _ List.mem_cons_self) (tb _ (List.mem_cons_of_mem _ List.mem_cons_self)) (tb _ (List.mem_cons_of_mem _ (List.mem_cons_of_mem _ List.mem_cons_self)))
end K15
end W9
open PySem PySem.W PyProof.Rows W9
set_option maxHeartbeats 0 in
theorem PySem.Challenge.cw_wornyettold_k15_sizes_faults_places_cell_holds : PySem.Challenge.rw_wornyettold_k15_sizes_faults_places_cell.Holds := by
  w_on; o_law; k_head; (case hw => w_witness2)
  k_fill
  refine W9.walk_topZ (l := PySem.Challenge.rw_wornyettold_k15_sizes_faults_places_cell) (n := 63) (k := 32) (x := "script") (F := fun K => W9.K15.F_law [tabP K "_law_are_sizes_right" "_law_are_sizes_right.<locals>.<lambda>", tabP K "_law_is_fault_right" "_law_is_fault_right.<locals>.<lambda>", tabP K "_law_right" "_law_right.<locals>.<lambda>"]) (cs := fun K => [tabP K "_law_are_sizes_right" "_law_are_sizes_right.<locals>.<lambda>", tabP K "_law_is_fault_right" "_law_is_fault_right.<locals>.<lambda>", tabP K "_law_right" "_law_right.<locals>.<lambda>"]) rfl (by decide) rfl ⟨rfl, by decide, by decide⟩ (fun w h Y => PySem.W.km_in_of Y) ?F ?due
  case F =>
    intro w mg mb mean fa h Y hT KX hmg
    have h1 := hT.g
    refine' W9.K15.all_mk (l := PySem.Challenge.rw_wornyettold_k15_sizes_faults_places_cell) (w := w) KX h1 hmg (PySem.W.km_tabs_of Y) ?oc0 ?a1 ?l1 ?c1 ?k1 ?a2 ?l2 ?c2 ?k2 ?a3 ?l3 ?c3 ?k3 ?a4 ?l4 ?c4 ?k4 ?a5 ?l5 ?c5 ?k5 ?a6 ?l6 ?c6 ?k6 ?a7 ?l7 ?c7 ?k7 ?a8 ?l8 ?c8 ?k8 ?a9 ?l9 ?c9 ?k9 ?a10 ?i10 ?l10 ?c10 ?k10 ?e10 ?mk10 ?mc10 ?a11 ?b11 ?c_11 ?d11 ?l11 ?c11 ?k11 ?a12 ?b12 ?c_12 ?d12 ?l12 ?c12 ?k12 ?a13 ?b13 ?c_13 ?d13 ?l13 ?c13 ?k13 ?a14 ?b14 ?c_14 ?d14 ?l14 ?c14 ?k14 ?a15 ?b15 ?c_15 ?d15 ?l15 ?c15 ?k15 ?a16 ?b16 ?c_16 ?d16 ?l16 ?c16 ?k16 ?a17 ?b17 ?c_17 ?d17 ?l17 ?c17 ?k17 ?a18 ?i18 ?l18 ?c18 ?k18 ?a19 ?i19 ?l19 ?c19 ?k19 ?a20 ?i20 ?l20 ?c20 ?k20 ?a21 ?i21 ?l21 ?c21 ?k21 ?a22 ?i22 ?l22 ?c22 ?k22 ?a23 ?i23 ?l23 ?c23 ?k23 ?a24 ?i24 ?l24 ?c24 ?k24 ?a25 ?i25 ?l25 ?c25 ?k25 ?a26 ?i26 ?l26 ?c26 ?k26 ?a27 ?i27 ?l27 ?c27 ?k27 ?a28 ?i28 ?l28 ?c28 ?k28 ?a29 ?l29 ?c29 ?k29 ?a30 ?l30 ?c30 ?k30 ?a31 ?l31 ?c31 ?k31 ?a32 ?l32 ?c32 ?k32 ?a33 ?l33 ?c33 ?k33 ?a34 ?l34 ?c34 ?k34 ?a35 ?l35 ?c35 ?k35 ?a36 ?l36 ?c36 ?k36 ?a37 ?l37 ?c37 ?k37 ?a38 ?l38 ?c38 ?k38 ?a39 ?l39 ?c39 ?k39 ?a40 ?l40 ?c40 ?k40 ?a41 ?l41 ?c41 ?k41 ?a42 ?l42 ?c42 ?k42 ?a43 ?l43 ?c43 ?k43 ?a44 ?l44 ?c44 ?k44 ?a45 ?l45 ?c45 ?k45 ?a46 ?l46 ?c46 ?k46 ?a47 ?l47 ?c47 ?k47 ?a48 ?l48 ?c48 ?k48 ?a49 ?l49 ?c49 ?k49 ?ta49 ?tb49 ?tc49 ?td49 ?te49 ?tf49 ?a50 ?l50 ?c50 ?k50 ?a51 ?l51 ?c51 ?k51 ?a52 ?l52 ?c52 ?k52 ?a53 ?l53 ?c53 ?k53 ?ta53 ?tb53 ?tc53 ?td53 ?te53 ?tf53 ?a54 ?l54 ?c54 ?k54 ?ta54 ?tb54 ?tc54 ?td54 ?te54 ?tf54 ?a55 ?l55 ?c55 ?k55 ?zD ?zs ?zt ?zc ?zi ?zI ?zf ?zk ?zo ?zu ?zv ?zw ?zx ?zg ?zh ?xa_0 ?xl_0 ?xr_0 ?xs_0 ?xm_0 ?xv_0 ?xi_0 ?xt_0 ?xg_0 ?xh_0 ?xn_0 ?xj_0 ?xk_0 ?xe_0 ?xy_0 ?xd_0 ?xp_0 ?xq_0 ?xo_0 ?xx_0 ?xa_1 ?xl_1 ?xr_1 ?xs_1 ?xm_1 ?xv_1 ?xi_1 ?xt_1 ?xg_1 ?xh_1 ?xn_1 ?xj_1 ?xk_1 ?xe_1 ?xy_1 ?xd_1 ?xp_1 ?xq_1 ?xo_1 ?xx_1 ?xa_2 ?xl_2 ?xr_2 ?xs_2 ?xm_2 ?xv_2 ?xi_2 ?xt_2 ?xg_2 ?xh_2 ?xn_2 ?xj_2 ?xk_2 ?xe_2 ?xy_2 ?xd_2 ?xp_2 ?xq_2 ?xo_2 ?xx_2 ?xa_3 ?xl_3 ?xr_3 ?xs_3 ?xm_3 ?xv_3 ?xi_3 ?xt_3 ?xg_3 ?xh_3 ?xn_3 ?xj_3 ?xk_3 ?xe_3 ?xy_3 ?xd_3 ?xp_3 ?xq_3 ?xo_3 ?xx_3 ?xa_4 ?xl_4 ?xr_4 ?xs_4 ?xm_4 ?xv_4 ?xi_4 ?xt_4 ?xg_4 ?xh_4 ?xn_4 ?xj_4 ?xk_4 ?xe_4 ?xy_4 ?xd_4 ?xp_4 ?xq_4 ?xo_4 ?xx_4 ?xa_5 ?xl_5 ?xr_5 ?xs_5 ?xm_5 ?xv_5 ?xi_5 ?xt_5 ?xg_5 ?xh_5 ?xn_5 ?xj_5 ?xk_5 ?xe_5 ?xy_5 ?xd_5 ?xp_5 ?xq_5 ?xo_5 ?xx_5 ?xa_6 ?xl_6 ?xr_6 ?xs_6 ?xm_6 ?xv_6 ?xi_6 ?xt_6 ?xg_6 ?xh_6 ?xn_6 ?xj_6 ?xk_6 ?xe_6 ?xy_6 ?xd_6 ?xp_6 ?xq_6 ?xo_6 ?xx_6 ?xa_7 ?xl_7 ?xr_7 ?xs_7 ?xm_7 ?xv_7 ?xi_7 ?xt_7 ?xg_7 ?xh_7 ?xn_7 ?xj_7 ?xk_7 ?xe_7 ?xy_7 ?xd_7 ?xp_7 ?xq_7 ?xo_7 ?xx_7 ?xa_8 ?xl_8 ?xr_8 ?xs_8 ?xm_8 ?xv_8 ?xi_8 ?xt_8 ?xg_8 ?xh_8 ?xn_8 ?xj_8 ?xk_8 ?xe_8 ?xy_8 ?xd_8 ?xp_8 ?xq_8 ?xo_8 ?xx_8 ?xa_9 ?xl_9 ?xr_9 ?xs_9 ?xm_9 ?xv_9 ?xi_9 ?xt_9 ?xg_9 ?xh_9 ?xn_9 ?xj_9 ?xk_9 ?xe_9 ?xy_9 ?xd_9 ?xp_9 ?xq_9 ?xo_9 ?xx_9 ?y0_0 ?y0_1 ?y0_2 ?y0_3 ?y0_4 ?y0_5 ?y0_6 ?y0_7 ?y0_8 ?y0_9 ?y1_0 ?y1_1 ?y1_2 ?y1_3 ?y1_4 ?y1_5 ?y1_6 ?y1_7 ?y1_8 ?y1_9 ?y2_0 ?y2_1 ?y2_2 ?y2_3 ?y2_4 ?y2_5 ?y2_6 ?y2_7 ?y2_8 ?y2_9 ?y3_0 ?y3_1 ?y3_2 ?y3_3 ?y3_4 ?y3_5 ?y3_6 ?y3_7 ?y3_8 ?y3_9 ?y4_0 ?y4_1 ?y4_2 ?y4_3 ?y4_4 ?y4_5 ?y4_6 ?y4_7 ?y4_8 ?y4_9 ?y5_0 ?y5_1 ?y5_2 ?y5_3 ?y5_4 ?y5_5 ?y5_6 ?y5_7 ?y5_8 ?y5_9 ?y6_0 ?y6_1 ?y6_2 ?y6_3 ?y6_4 ?y6_5 ?y6_6 ?y6_7 ?y6_8 ?y6_9 ?y7_0 ?y7_1 ?y7_2 ?y7_3 ?y7_4 ?y7_5 ?y7_6 ?y7_7 ?y7_8 ?y7_9 ?y8_0 ?y8_1 ?y8_2 ?y8_3 ?y8_4 ?y8_5 ?y8_6 ?y8_7 ?y8_8 ?y8_9 ?y9_0 ?y9_1 ?y9_2 ?y9_3 ?y9_4 ?y9_5 ?y9_6 ?y9_7 ?y9_8 ?y9_9 ?saoC0 ?sboC0 ?scoC0 ?sdoC0 ?vaoC0_0 ?vboC0_0 ?vcoC0_0 ?vdoC0_0 ?veoC0_0 ?vaoC0_1 ?vboC0_1 ?vcoC0_1 ?vdoC0_1 ?veoC0_1 ?vaoC0_2 ?vboC0_2 ?vcoC0_2 ?vdoC0_2 ?veoC0_2 ?vaoC0_3 ?vboC0_3 ?vcoC0_3 ?vdoC0_3 ?veoC0_3 ?vaoC0_4 ?vboC0_4 ?vcoC0_4 ?vdoC0_4 ?veoC0_4 ?vaoC0_5 ?vboC0_5 ?vcoC0_5 ?vdoC0_5 ?veoC0_5 ?vaoC0_6 ?vboC0_6 ?vcoC0_6 ?vdoC0_6 ?veoC0_6 ?vaoC0_7 ?vboC0_7 ?vcoC0_7 ?vdoC0_7 ?veoC0_7 ?vaoC0_8 ?vboC0_8 ?vcoC0_8 ?vdoC0_8 ?veoC0_8 ?vaoC0_9 ?vboC0_9 ?vcoC0_9 ?vdoC0_9 ?veoC0_9 ?z56 ?z57 ?z58 ?z59 ?z60 ?z61 ?z62 ?z63 ?z64 ?z65 ?z66 ?z67 ?z68 ?z69 ?z70 ?z71 ?z72 ?z73 ?z74 ?z75 ?e_75 ?z76 ?z77 ?z78 ?z79 ?z80 ?z81 ?e_81 ?z82 ?e_82 ?z83 ?e_83 ?z84 ?tg
    (case oc0 => k_is)
    (case a1 => k_is)
    (case l1 => k_is)
    (case c1 => k_is)
    (case k1 => k_is)
    (case a2 => k_is)
    (case l2 => k_is)
    (case c2 => k_is)
    (case k2 => k_is)
    (case a3 => k_is)
    (case l3 => k_is)
    (case c3 => k_is)
    (case k3 => k_is)
    (case a4 => k_is)
    (case l4 => k_is)
    (case c4 => k_is)
    (case k4 => k_is)
    (case a5 => k_is)
    (case l5 => k_is)
    (case c5 => k_is)
    (case k5 => k_is)
    (case a6 => k_is)
    (case l6 => k_is)
    (case c6 => k_is)
    (case k6 => k_is)
    (case a7 => k_is)
    (case l7 => k_is)
    (case c7 => k_is)
    (case k7 => k_is)
    (case a8 => k_is)
    (case l8 => k_is)
    (case c8 => k_is)
    (case k8 => k_is)
    (case a9 => k_is)
    (case l9 => k_is)
    (case c9 => k_is)
    (case k9 => k_is)
    (case a10 => k_is)
    (case i10 => k_is)
    (case l10 => k_is)
    (case c10 => k_is)
    (case k10 => k_is)
    (case e10 => k_is)
    (case mk10 => k_is)
    (case mc10 => k_is)
    (case a11 => k_is)
    (case b11 => k_is)
    (case c_11 => k_is)
    (case d11 => k_is)
    (case l11 => k_is)
    (case c11 => k_is)
    (case k11 => k_is)
    (case a12 => k_is)
    (case b12 => k_is)
    (case c_12 => k_is)
    (case d12 => k_is)
    (case l12 => k_is)
    (case c12 => k_is)
    (case k12 => k_is)
    (case a13 => k_is)
    (case b13 => k_is)
    (case c_13 => k_is)
    (case d13 => k_is)
    (case l13 => k_is)
    (case c13 => k_is)
    (case k13 => k_is)
    (case a14 => k_is)
    (case b14 => k_is)
    (case c_14 => k_is)
    (case d14 => k_is)
    (case l14 => k_is)
    (case c14 => k_is)
    (case k14 => k_is)
    (case a15 => k_is)
    (case b15 => k_is)
    (case c_15 => k_is)
    (case d15 => k_is)
    (case l15 => k_is)
    (case c15 => k_is)
    (case k15 => k_is)
    (case a16 => k_is)
    (case b16 => k_is)
    (case c_16 => k_is)
    (case d16 => k_is)
    (case l16 => k_is)
    (case c16 => k_is)
    (case k16 => k_is)
    (case a17 => k_is)
    (case b17 => k_is)
    (case c_17 => k_is)
    (case d17 => k_is)
    (case l17 => k_is)
    (case c17 => k_is)
    (case k17 => k_is)
    (case a18 => k_is)
    (case i18 => k_is)
    (case l18 => k_is)
    (case c18 => k_is)
    (case k18 => k_is)
    (case a19 => k_is)
    (case i19 => k_is)
    (case l19 => k_is)
    (case c19 => k_is)
    (case k19 => k_is)
    (case a20 => k_is)
    (case i20 => k_is)
    (case l20 => k_is)
    (case c20 => k_is)
    (case k20 => k_is)
    (case a21 => k_is)
    (case i21 => k_is)
    (case l21 => k_is)
    (case c21 => k_is)
    (case k21 => k_is)
    (case a22 => k_is)
    (case i22 => k_is)
    (case l22 => k_is)
    (case c22 => k_is)
    (case k22 => k_is)
    (case a23 => k_is)
    (case i23 => k_is)
    (case l23 => k_is)
    (case c23 => k_is)
    (case k23 => k_is)
    (case a24 => k_is)
    (case i24 => k_is)
    (case l24 => k_is)
    (case c24 => k_is)
    (case k24 => k_is)
    (case a25 => k_is)
    (case i25 => k_is)
    (case l25 => k_is)
    (case c25 => k_is)
    (case k25 => k_is)
    (case a26 => k_is)
    (case i26 => k_is)
    (case l26 => k_is)
    (case c26 => k_is)
    (case k26 => k_is)
    (case a27 => k_is)
    (case i27 => k_is)
    (case l27 => k_is)
    (case c27 => k_is)
    (case k27 => k_is)
    (case a28 => k_is)
    (case i28 => k_is)
    (case l28 => k_is)
    (case c28 => k_is)
    (case k28 => k_is)
    (case a29 => k_is)
    (case l29 => k_is)
    (case c29 => k_is)
    (case k29 => k_is)
    (case a30 => k_is)
    (case l30 => k_is)
    (case c30 => k_is)
    (case k30 => k_is)
    (case a31 => k_is)
    (case l31 => k_is)
    (case c31 => k_is)
    (case k31 => k_is)
    (case a32 => k_is)
    (case l32 => k_is)
    (case c32 => k_is)
    (case k32 => k_is)
    (case a33 => k_is)
    (case l33 => k_is)
    (case c33 => k_is)
    (case k33 => k_is)
    (case a34 => k_is)
    (case l34 => k_is)
    (case c34 => k_is)
    (case k34 => k_is)
    (case a35 => k_is)
    (case l35 => k_is)
    (case c35 => k_is)
    (case k35 => k_is)
    (case a36 => k_is)
    (case l36 => k_is)
    (case c36 => k_is)
    (case k36 => k_is)
    (case a37 => k_is)
    (case l37 => k_is)
    (case c37 => k_is)
    (case k37 => k_is)
    (case a38 => k_is)
    (case l38 => k_is)
    (case c38 => k_is)
    (case k38 => k_is)
    (case a39 => k_is)
    (case l39 => k_is)
    (case c39 => k_is)
    (case k39 => k_is)
    (case a40 => k_is)
    (case l40 => k_is)
    (case c40 => k_is)
    (case k40 => k_is)
    (case a41 => k_is)
    (case l41 => k_is)
    (case c41 => k_is)
    (case k41 => k_is)
    (case a42 => k_is)
    (case l42 => k_is)
    (case c42 => k_is)
    (case k42 => k_is)
    (case a43 => k_is)
    (case l43 => k_is)
    (case c43 => k_is)
    (case k43 => k_is)
    (case a44 => k_is)
    (case l44 => k_is)
    (case c44 => k_is)
    (case k44 => k_is)
    (case a45 => k_is)
    (case l45 => k_is)
    (case c45 => k_is)
    (case k45 => k_is)
    (case a46 => k_is)
    (case l46 => k_is)
    (case c46 => k_is)
    (case k46 => k_is)
    (case a47 => k_is)
    (case l47 => k_is)
    (case c47 => k_is)
    (case k47 => k_is)
    (case a48 => k_is)
    (case l48 => k_is)
    (case c48 => k_is)
    (case k48 => k_is)
    (case a49 => k_is)
    (case l49 => k_is)
    (case c49 => k_is)
    (case k49 => k_is)
    (case ta49 => rfl)
    (case tb49 => k_is)
    (case tc49 => rfl)
    (case td49 => kernel_rfl)
    (case te49 => kernel_rfl)
    (case tf49 => decide)
    (case a50 => k_is)
    (case l50 => k_is)
    (case c50 => k_is)
    (case k50 => k_is)
    (case a51 => k_is)
    (case l51 => k_is)
    (case c51 => k_is)
    (case k51 => k_is)
    (case a52 => k_is)
    (case l52 => k_is)
    (case c52 => k_is)
    (case k52 => k_is)
    (case a53 => k_is)
    (case l53 => k_is)
    (case c53 => k_is)
    (case k53 => k_is)
    (case ta53 => rfl)
    (case tb53 => k_is)
    (case tc53 => rfl)
    (case td53 => kernel_rfl)
    (case te53 => kernel_rfl)
    (case tf53 => decide)
    (case a54 => k_is)
    (case l54 => k_is)
    (case c54 => k_is)
    (case k54 => k_is)
    (case ta54 => rfl)
    (case tb54 => k_is)
    (case tc54 => rfl)
    (case td54 => kernel_rfl)
    (case te54 => kernel_rfl)
    (case tf54 => decide)
    (case a55 => k_is)
    (case l55 => k_is)
    (case c55 => k_is)
    (case k55 => k_is)
    (case zD => k_is)
    (case zs => k_is)
    (case zt => decide +kernel)
    (case zc => k_is)
    (case zi => k_is)
    (case zI => k_is)
    (case zf => k_is)
    (case zk => k_is)
    (case zo => k_is)
    (case zu => k_is)
    (case zv => rfl)
    (case zw => decide +kernel)
    (case zx => k_is)
    (case zg => k_is)
    (case zh => k_is)
    (case xa_0 => k_is)
    (case xl_0 => k_is)
    (case xr_0 => decide +kernel)
    (case xs_0 => ks_is)
    (case xm_0 => k_is)
    (case xv_0 => k_is)
    (case xi_0 => kx_is)
    (case xt_0 => k_is)
    (case xg_0 => k_is)
    (case xh_0 => k_is)
    (case xn_0 => k_is)
    (case xj_0 => k_is)
    (case xk_0 => k_is)
    (case xe_0 => k_is)
    (case xy_0 => k_is)
    (case xd_0 => k_is)
    (case xp_0 => k_is)
    (case xq_0 => k_is)
    (case xo_0 => k_is)
    (case xx_0 => first | rfl | k_is)
    (case xa_1 => k_is)
    (case xl_1 => k_is)
    (case xr_1 => decide +kernel)
    (case xs_1 => ks_is)
    (case xm_1 => k_is)
    (case xv_1 => k_is)
    (case xi_1 => kx_is)
    (case xt_1 => k_is)
    (case xg_1 => k_is)
    (case xh_1 => k_is)
    (case xn_1 => k_is)
    (case xj_1 => k_is)
    (case xk_1 => k_is)
    (case xe_1 => k_is)
    (case xy_1 => k_is)
    (case xd_1 => k_is)
    (case xp_1 => k_is)
    (case xq_1 => k_is)
    (case xo_1 => k_is)
    (case xx_1 => first | rfl | k_is)
    (case xa_2 => k_is)
    (case xl_2 => k_is)
    (case xr_2 => decide +kernel)
    (case xs_2 => ks_is)
    (case xm_2 => k_is)
    (case xv_2 => k_is)
    (case xi_2 => kx_is)
    (case xt_2 => k_is)
    (case xg_2 => k_is)
    (case xh_2 => k_is)
    (case xn_2 => k_is)
    (case xj_2 => k_is)
    (case xk_2 => k_is)
    (case xe_2 => k_is)
    (case xy_2 => k_is)
    (case xd_2 => k_is)
    (case xp_2 => k_is)
    (case xq_2 => k_is)
    (case xo_2 => k_is)
    (case xx_2 => first | rfl | k_is)
    (case xa_3 => k_is)
    (case xl_3 => k_is)
    (case xr_3 => decide +kernel)
    (case xs_3 => ks_is)
    (case xm_3 => k_is)
    (case xv_3 => k_is)
    (case xi_3 => kx_is)
    (case xt_3 => k_is)
    (case xg_3 => k_is)
    (case xh_3 => k_is)
    (case xn_3 => k_is)
    (case xj_3 => k_is)
    (case xk_3 => k_is)
    (case xe_3 => k_is)
    (case xy_3 => k_is)
    (case xd_3 => k_is)
    (case xp_3 => k_is)
    (case xq_3 => k_is)
    (case xo_3 => k_is)
    (case xx_3 => first | rfl | k_is)
    (case xa_4 => k_is)
    (case xl_4 => k_is)
    (case xr_4 => decide +kernel)
    (case xs_4 => ks_is)
    (case xm_4 => k_is)
    (case xv_4 => k_is)
    (case xi_4 => kx_is)
    (case xt_4 => k_is)
    (case xg_4 => k_is)
    (case xh_4 => k_is)
    (case xn_4 => k_is)
    (case xj_4 => k_is)
    (case xk_4 => k_is)
    (case xe_4 => k_is)
    (case xy_4 => k_is)
    (case xd_4 => k_is)
    (case xp_4 => k_is)
    (case xq_4 => k_is)
    (case xo_4 => k_is)
    (case xx_4 => first | rfl | k_is)
    (case xa_5 => k_is)
    (case xl_5 => k_is)
    (case xr_5 => decide +kernel)
    (case xs_5 => ks_is)
    (case xm_5 => k_is)
    (case xv_5 => k_is)
    (case xi_5 => kx_is)
    (case xt_5 => k_is)
    (case xg_5 => k_is)
    (case xh_5 => k_is)
    (case xn_5 => k_is)
    (case xj_5 => k_is)
    (case xk_5 => k_is)
    (case xe_5 => k_is)
    (case xy_5 => k_is)
    (case xd_5 => k_is)
    (case xp_5 => k_is)
    (case xq_5 => k_is)
    (case xo_5 => k_is)
    (case xx_5 => first | rfl | k_is)
    (case xa_6 => k_is)
    (case xl_6 => k_is)
    (case xr_6 => decide +kernel)
    (case xs_6 => ks_is)
    (case xm_6 => k_is)
    (case xv_6 => k_is)
    (case xi_6 => kx_is)
    (case xt_6 => k_is)
    (case xg_6 => k_is)
    (case xh_6 => k_is)
    (case xn_6 => k_is)
    (case xj_6 => k_is)
    (case xk_6 => k_is)
    (case xe_6 => k_is)
    (case xy_6 => k_is)
    (case xd_6 => k_is)
    (case xp_6 => k_is)
    (case xq_6 => k_is)
    (case xo_6 => k_is)
    (case xx_6 => first | rfl | k_is)
    (case xa_7 => k_is)
    (case xl_7 => k_is)
    (case xr_7 => decide +kernel)
    (case xs_7 => ks_is)
    (case xm_7 => k_is)
    (case xv_7 => k_is)
    (case xi_7 => kx_is)
    (case xt_7 => k_is)
    (case xg_7 => k_is)
    (case xh_7 => k_is)
    (case xn_7 => k_is)
    (case xj_7 => k_is)
    (case xk_7 => k_is)
    (case xe_7 => k_is)
    (case xy_7 => k_is)
    (case xd_7 => k_is)
    (case xp_7 => k_is)
    (case xq_7 => k_is)
    (case xo_7 => k_is)
    (case xx_7 => first | rfl | k_is)
    (case xa_8 => k_is)
    (case xl_8 => k_is)
    (case xr_8 => decide +kernel)
    (case xs_8 => ks_is)
    (case xm_8 => k_is)
    (case xv_8 => k_is)
    (case xi_8 => kx_is)
    (case xt_8 => k_is)
    (case xg_8 => k_is)
    (case xh_8 => k_is)
    (case xn_8 => k_is)
    (case xj_8 => k_is)
    (case xk_8 => k_is)
    (case xe_8 => k_is)
    (case xy_8 => k_is)
    (case xd_8 => k_is)
    (case xp_8 => k_is)
    (case xq_8 => k_is)
    (case xo_8 => k_is)
    (case xx_8 => first | rfl | k_is)
    (case xa_9 => k_is)
    (case xl_9 => k_is)
    (case xr_9 => decide +kernel)
    (case xs_9 => ks_is)
    (case xm_9 => k_is)
    (case xv_9 => k_is)
    (case xi_9 => kx_is)
    (case xt_9 => k_is)
    (case xg_9 => k_is)
    (case xh_9 => k_is)
    (case xn_9 => k_is)
    (case xj_9 => k_is)
    (case xk_9 => k_is)
    (case xe_9 => k_is)
    (case xy_9 => k_is)
    (case xd_9 => k_is)
    (case xp_9 => k_is)
    (case xq_9 => k_is)
    (case xo_9 => k_is)
    (case xx_9 => first | rfl | k_is)
    (case y0_0 => first | rfl | k_is)
    (case y0_1 => first | rfl | k_is)
    (case y0_2 => first | rfl | k_is)
    (case y0_3 => first | rfl | k_is)
    (case y0_4 => first | rfl | k_is)
    (case y0_5 => first | rfl | k_is)
    (case y0_6 => first | rfl | k_is)
    (case y0_7 => first | rfl | k_is)
    (case y0_8 => first | rfl | k_is)
    (case y0_9 => first | rfl | k_is)
    (case y1_0 => first | rfl | k_is)
    (case y1_1 => first | rfl | k_is)
    (case y1_2 => first | rfl | k_is)
    (case y1_3 => first | rfl | k_is)
    (case y1_4 => first | rfl | k_is)
    (case y1_5 => first | rfl | k_is)
    (case y1_6 => first | rfl | k_is)
    (case y1_7 => first | rfl | k_is)
    (case y1_8 => first | rfl | k_is)
    (case y1_9 => first | rfl | k_is)
    (case y2_0 => first | rfl | k_is)
    (case y2_1 => first | rfl | k_is)
    (case y2_2 => first | rfl | k_is)
    (case y2_3 => first | rfl | k_is)
    (case y2_4 => first | rfl | k_is)
    (case y2_5 => first | rfl | k_is)
    (case y2_6 => first | rfl | k_is)
    (case y2_7 => first | rfl | k_is)
    (case y2_8 => first | rfl | k_is)
    (case y2_9 => first | rfl | k_is)
    (case y3_0 => first | rfl | k_is)
    (case y3_1 => first | rfl | k_is)
    (case y3_2 => first | rfl | k_is)
    (case y3_3 => first | rfl | k_is)
    (case y3_4 => first | rfl | k_is)
    (case y3_5 => first | rfl | k_is)
    (case y3_6 => first | rfl | k_is)
    (case y3_7 => first | rfl | k_is)
    (case y3_8 => first | rfl | k_is)
    (case y3_9 => first | rfl | k_is)
    (case y4_0 => first | rfl | k_is)
    (case y4_1 => first | rfl | k_is)
    (case y4_2 => first | rfl | k_is)
    (case y4_3 => first | rfl | k_is)
    (case y4_4 => first | rfl | k_is)
    (case y4_5 => first | rfl | k_is)
    (case y4_6 => first | rfl | k_is)
    (case y4_7 => first | rfl | k_is)
    (case y4_8 => first | rfl | k_is)
    (case y4_9 => first | rfl | k_is)
    (case y5_0 => first | rfl | k_is)
    (case y5_1 => first | rfl | k_is)
    (case y5_2 => first | rfl | k_is)
    (case y5_3 => first | rfl | k_is)
    (case y5_4 => first | rfl | k_is)
    (case y5_5 => first | rfl | k_is)
    (case y5_6 => first | rfl | k_is)
    (case y5_7 => first | rfl | k_is)
    (case y5_8 => first | rfl | k_is)
    (case y5_9 => first | rfl | k_is)
    (case y6_0 => first | rfl | k_is)
    (case y6_1 => first | rfl | k_is)
    (case y6_2 => first | rfl | k_is)
    (case y6_3 => first | rfl | k_is)
    (case y6_4 => first | rfl | k_is)
    (case y6_5 => first | rfl | k_is)
    (case y6_6 => first | rfl | k_is)
    (case y6_7 => first | rfl | k_is)
    (case y6_8 => first | rfl | k_is)
    (case y6_9 => first | rfl | k_is)
    (case y7_0 => first | rfl | k_is)
    (case y7_1 => first | rfl | k_is)
    (case y7_2 => first | rfl | k_is)
    (case y7_3 => first | rfl | k_is)
    (case y7_4 => first | rfl | k_is)
    (case y7_5 => first | rfl | k_is)
    (case y7_6 => first | rfl | k_is)
    (case y7_7 => first | rfl | k_is)
    (case y7_8 => first | rfl | k_is)
    (case y7_9 => first | rfl | k_is)
    (case y8_0 => first | rfl | k_is)
    (case y8_1 => first | rfl | k_is)
    (case y8_2 => first | rfl | k_is)
    (case y8_3 => first | rfl | k_is)
    (case y8_4 => first | rfl | k_is)
    (case y8_5 => first | rfl | k_is)
    (case y8_6 => first | rfl | k_is)
    (case y8_7 => first | rfl | k_is)
    (case y8_8 => first | rfl | k_is)
    (case y8_9 => first | rfl | k_is)
    (case y9_0 => first | rfl | k_is)
    (case y9_1 => first | rfl | k_is)
    (case y9_2 => first | rfl | k_is)
    (case y9_3 => first | rfl | k_is)
    (case y9_4 => first | rfl | k_is)
    (case y9_5 => first | rfl | k_is)
    (case y9_6 => first | rfl | k_is)
    (case y9_7 => first | rfl | k_is)
    (case y9_8 => first | rfl | k_is)
    (case y9_9 => first | rfl | k_is)
    (case saoC0 => k_is)
    (case sboC0 => k_is)
    (case scoC0 => k_is)
    (case sdoC0 => k_is)
    (case vaoC0_0 => k_is)
    (case vboC0_0 => k_is)
    (case vcoC0_0 => k_is)
    (case vdoC0_0 => k_is)
    (case veoC0_0 => k_is)
    (case vaoC0_1 => k_is)
    (case vboC0_1 => k_is)
    (case vcoC0_1 => k_is)
    (case vdoC0_1 => k_is)
    (case veoC0_1 => k_is)
    (case vaoC0_2 => k_is)
    (case vboC0_2 => k_is)
    (case vcoC0_2 => k_is)
    (case vdoC0_2 => k_is)
    (case veoC0_2 => k_is)
    (case vaoC0_3 => k_is)
    (case vboC0_3 => k_is)
    (case vcoC0_3 => k_is)
    (case vdoC0_3 => k_is)
    (case veoC0_3 => k_is)
    (case vaoC0_4 => k_is)
    (case vboC0_4 => k_is)
    (case vcoC0_4 => k_is)
    (case vdoC0_4 => k_is)
    (case veoC0_4 => k_is)
    (case vaoC0_5 => k_is)
    (case vboC0_5 => k_is)
    (case vcoC0_5 => k_is)
    (case vdoC0_5 => k_is)
    (case veoC0_5 => k_is)
    (case vaoC0_6 => k_is)
    (case vboC0_6 => k_is)
    (case vcoC0_6 => k_is)
    (case vdoC0_6 => k_is)
    (case veoC0_6 => k_is)
    (case vaoC0_7 => k_is)
    (case vboC0_7 => k_is)
    (case vcoC0_7 => k_is)
    (case vdoC0_7 => k_is)
    (case veoC0_7 => k_is)
    (case vaoC0_8 => k_is)
    (case vboC0_8 => k_is)
    (case vcoC0_8 => k_is)
    (case vdoC0_8 => k_is)
    (case veoC0_8 => k_is)
    (case vaoC0_9 => k_is)
    (case vboC0_9 => k_is)
    (case vcoC0_9 => k_is)
    (case vdoC0_9 => k_is)
    (case veoC0_9 => k_is)
    (case z56 => k_is)
    (case z57 => k_is)
    (case z58 => k_is)
    (case z59 => k_is)
    (case z60 => k_is)
    (case z61 => k_is)
    (case z62 => k_is)
    (case z63 => k_is)
    (case z64 => k_is)
    (case z65 => k_is)
    (case z66 => k_is)
    (case z67 => k_is)
    (case z68 => k_is)
    (case z69 => k_is)
    (case z70 => k_is)
    (case z71 => k_is)
    (case z72 => k_is)
    (case z73 => k_is)
    (case z74 => k_is)
    (case z75 => k_is)
    (case e_75 => first | rfl | decide +kernel)
    (case z76 => k_is)
    (case z77 => k_is)
    (case z78 => k_is)
    (case z79 => k_is)
    (case z80 => k_is)
    (case z81 => k_is)
    (case e_81 => first | rfl | decide +kernel)
    (case z82 => k_is)
    (case e_82 => first | rfl | decide +kernel)
    (case z83 => k_is)
    (case e_83 => first | rfl | decide +kernel)
    (case z84 => k_is)
    (case tg => decide)
  case due =>
    intro w ns hl hb
    exact .mk hl rfl

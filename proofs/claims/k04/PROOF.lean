import PyProof.Rows.All
import Wide.All
import OpenK.AllK
import Wide.FinOn
import HandS.ForMost
import HandS.ForExc
import HandS.TupAny
import HandS.TupMul
import HandS.IsInst
import HandS.Wide
import HandS.CallSlots
import HandS.Walk
import HandS.HeadHook2
import HandS.RaiseMore
import HandS.Deep
import KE.GoesEnum
import KE.GoesMore
import KE.GoesZip
import HandS.Iter
import HandS.SortInts
import HandS.TupLe
import HandS.NoneIn
import HandS.Text
import HandS.Lambda
import HandS.Call
import PyProof.MaxThree
import PyProof.SeqI3
import HandS.ExcIs
import HandS.ExcOwn
import HandS.TryOnly
import HandS.ExcCtx
import HandS.HotCalls
import HandS.Comp
import KE.KUnpack
import HandS.Style
import HandS.HeadWalk
import HandS.Strs
import HandS.SlotsOwn
import PyProof.InstNe
import HandS.EndBits
import HandS.HeadEnd
import HandS.Head2
import HandS.HeadHook4
import HandS.EndTab
import KE.KNestM
import PyProof.ExcBaseAll.ValueError
import PyProof.NoPylong
import KE.IntTextLaws
import HandS.Head0
import HandS.Head1
import HandS.Words
import HandS.WordsExc
import PySem.Challenge.RW_grainlines_k04_whole_elevator_texts
set_option Elab.async false
set_option linter.all false
set_option maxRecDepth 100000
set_option maxHeartbeats 4000000
namespace G
abbrev St := L2.St
open PySem PySem.Spec PyProof.Rows L2

/-- a value, tuples inline; tmp: a new list that nobody else knows; kl: a list of the written part -/

inductive PV where
  | non | bl (b : Bool) | int (i : Int) | str (x : Str) | tup (xs : List PV) | ref (a : Addr) | ty (n : String) | tmp (xs : List PV) | kl (xs : List PV)

/-- an object -/
inductive PO where
  | lst (xs : List PV) | frz (xs : List PV) | dk (kvs : List (Key × PV)) | dt (kvs : List (List Key × PV)) | ins (C : Str) (fs : List (Str × PV))

abbrev PM := Addr → Option PO
def up (μ : PM) (a : Addr) (o : PO) : PM := fun b => if b = a then some o else μ b
theorem up_same {μ : PM} {a : Addr} {o : PO} : up μ a o a = some o := if_pos rfl
theorem up_ne {μ : PM} {a b : Addr} {o : PO} (h : b ≠ a) : up μ a o b = μ b := if_neg h

/-- what is never written: tuples, code objects -/
def NK (o : HO) : Prop := (∃ xs, o = .tup xs) ∨ (∃ b xs, o = .frz b (.tup xs)) ∨ ∃ c q, o = LamX.CodeO c q
/-- the tables of code objects, and what is known to stay all along -/
class Tb where
  tabs : List (Addr × Str)
  kept : Addr → HO → Prop
  nk : ∀ a o, kept a o → NK o
variable [tb : Tb]
structure TbOk (H : Hp) : Prop where
  tabs : LamX.Tabs tb.tabs H
  kept : ∀ a o, tb.kept a o → H a = some o
theorem TbOk.ext {H H' : Hp} (t : TbOk H) (e : ∀ b o, H b = some o → H' b = some o) : TbOk H' := ⟨t.tabs.ext e, fun a o h => e _ _ (t.kept a o h)⟩
theorem TbOk.put {H : Hp} {a : Addr} {h h0 : HO} (t : TbOk H) (e : H a = some h0) (n1 : ∀ ps, h0 ≠ .tbl ps) (n2 : ¬ NK h0) : TbOk (upd H a h) := by
  refine ⟨fun p hp => ?_, fun b o hk => ?_⟩
  · obtain ⟨ps, h1, h2, h3⟩ := t.tabs p hp
    have ne : p.1 ≠ a := fun z => by rw [z, e] at h1; exact n1 ps (Option.some.inj h1)
    refine ⟨ps, by rw [upd_ne ne]; exact h1, h2, fun pos cv hc => ?_⟩
    obtain ⟨c, e1, e2⟩ := h3 pos cv hc
    have nc : c ≠ a := fun z => by rw [z, e] at e2; exact n2 (.inr (.inr ⟨_, _, Option.some.inj e2⟩))
    exact ⟨c, e1, by rw [upd_ne nc]; exact e2⟩
  · have e2 := t.kept b o hk
    have nc : b ≠ a := fun z => by rw [z, e] at e2; exact n2 (by rw [Option.some.inj e2]; exact tb.nk _ _ hk)
    rw [upd_ne nc]; exact e2
section
variable (K : PySem.W.Frag) (H : Hp)
/-- a list of the written part -/
def KLst (a : Addr) (xs : List V) : Prop := ∃ (o : Obj) (its : Array Value) (n : Nat), K.lookup a = some o ∧ o.cls = .type "list" ∧ o.dict = none ∧ o.data = .seq its n ∧ its.size ≤ sizeLine ∧ Vals xs its.toList
mutual
def RepV : PV → V → Prop
  | .non, w => w = .non
  | .bl b, w => w = .bl b
  | .int i, w => w = .int i
  | .str x, w => w = .str x ∧ x.length ≤ sizeLine
  | .tup xs, w => ∃ a vs, w = .ref a ∧ SqT K H a vs ∧ xs.length ≤ sizeLine ∧ RepVs xs vs
  | .ref a, w => w = .ref a
  | .ty n, w => w = .ty n
  | .tmp _, _ => False
  | .kl xs, w => ∃ a vs, w = .ref a ∧ KLst K a vs ∧ xs.length ≤ sizeLine ∧ RepVs xs vs
def RepVs : List PV → List V → Prop
  | [], vs => vs = []
  | x :: xs, vs => ∃ v r, vs = v :: r ∧ RepV x v ∧ RepVs xs r
end
def RepK {κ : Type} (kvs : List (κ × PV)) (ks : List (κ × V)) : Prop := ks.map (·.1) = kvs.map (·.1) ∧ RepVs K H (kvs.map (·.2)) (ks.map (·.2))
def RepO : PO → HO → Prop
  | .lst xs, h => ∃ vs, h = .lst vs ∧ xs.length ≤ sizeLine ∧ RepVs K H xs vs
  | .frz xs, h => ∃ o vs, h = .frz o (.lst vs) ∧ xs.length ≤ sizeLine ∧ RepVs K H xs vs
  | .dk kvs, h => ∃ ks, h = .dK ks ∧ kvs.length ≤ sizeLine ∧ RepK K H kvs ks
  | .dt kvs, h => ∃ ks, h = .dT ks ∧ kvs.length ≤ sizeLine ∧ RepK K H kvs ks
  | .ins C fs, h => ∃ dx gs, h = .ins (He.ga K C) dx gs ∧ fs.length ≤ 1000 ∧ RepK K H fs gs
structure RepH (μ : PM) : Prop where
  at_ : ∀ a o, μ a = some o → ∃ h, H a = some h ∧ RepO K H o h
  tb : TbOk H
instance {μ : PM} : CoeFun (RepH K H μ) (fun _ => ∀ a o, μ a = some o → ∃ h, H a = some h ∧ RepO K H o h) := ⟨RepH.at_⟩
end

/-- tuples stay -/
def TupLe (K : PySem.W.Frag) (H H' : Hp) : Prop := ∀ a xs, SqT K H a xs → SqT K H' a xs
section
variable {K : PySem.W.Frag} {H H' : Hp}
theorem TupLe.refl : TupLe K H H := fun _ _ h => h
mutual
theorem RepV.mono (t : TupLe K H H') : ∀ (x : PV) (w : V), RepV K H x w → RepV K H' x w
  | .non, _, h => h
  | .bl _, _, h => h
  | .int _, _, h => h
  | .str _, _, h => h
  | .tup xs, w, h => by
    unfold RepV at h ⊢
    obtain ⟨a, vs, e, s, z, r⟩ := h
    exact ⟨a, vs, e, t _ _ s, z, RepVs.mono t xs vs r⟩
  | .ref _, _, h => h
  | .ty _, _, h => h
  | .tmp _, _, h => h
  | .kl xs, w, h => by
    unfold RepV at h ⊢
    obtain ⟨a, vs, e, s, z, r⟩ := h
    exact ⟨a, vs, e, s, z, RepVs.mono t xs vs r⟩
theorem RepVs.mono (t : TupLe K H H') : ∀ (xs : List PV) (ws : List V), RepVs K H xs ws → RepVs K H' xs ws
  | [], _, h => h
  | x :: xs, ws, h => by
    unfold RepVs at h ⊢
    obtain ⟨v, r, e, h1, h2⟩ := h
    exact ⟨v, r, e, RepV.mono t x v h1, RepVs.mono t xs r h2⟩
end
theorem RepVs.nil : RepVs K H [] [] := rfl
theorem RepVs.cons {x : PV} {xs : List PV} {v : V} {vs : List V} (h : RepV K H x v) (t : RepVs K H xs vs) : RepVs K H (x :: xs) (v :: vs) := ⟨v, vs, rfl, h, t⟩
theorem RepVs.length : ∀ {xs : List PV} {vs : List V}, RepVs K H xs vs → xs.length = vs.length
  | [], _, h => by cases (show _ = [] from h); rfl
  | x :: xs, _, h => by
    obtain ⟨v, r, rfl, _, h2⟩ := h
    simp [RepVs.length h2]
theorem RepVs.get : ∀ {xs : List PV} {vs : List V} {i : Nat} {x : PV}, RepVs K H xs vs → xs[i]? = some x → ∃ v, vs[i]? = some v ∧ RepV K H x v
  | [], _, _, _, _, e => by simp at e
  | x :: xs, _, 0, y, h, e => by
    obtain ⟨v, r, rfl, h1, h2⟩ := h
    simp at e; subst e
    exact ⟨v, rfl, h1⟩
  | x :: xs, _, i + 1, y, h, e => by
    obtain ⟨v, r, rfl, h1, h2⟩ := h
    obtain ⟨w, e1, e2⟩ := RepVs.get (i := i) h2 (by simpa using e)
    exact ⟨w, by simpa using e1, e2⟩
theorem RepVs.get' : ∀ {xs : List PV} {vs : List V} {i : Nat} {v : V}, RepVs K H xs vs → vs[i]? = some v → ∃ x, xs[i]? = some x ∧ RepV K H x v
  | [], _, _, _, h, e => by cases (show _ = [] from h); simp at e
  | x :: xs, _, 0, y, h, e => by
    obtain ⟨v, r, rfl, h1, h2⟩ := h
    simp at e; subst e
    exact ⟨x, rfl, h1⟩
  | x :: xs, _, i + 1, y, h, e => by
    obtain ⟨v, r, rfl, h1, h2⟩ := h
    obtain ⟨w, e1, e2⟩ := RepVs.get' (i := i) h2 (by simpa using e)
    exact ⟨w, by simpa using e1, e2⟩
theorem RepVs.append : ∀ {xs ys : List PV} {vs ws : List V}, RepVs K H xs vs → RepVs K H ys ws → RepVs K H (xs ++ ys) (vs ++ ws)
  | [], _, _, _, h, t => by cases (show _ = [] from h); exact t
  | x :: xs, _, _, _, h, t => by
    obtain ⟨v, r, rfl, h1, h2⟩ := h
    exact ⟨v, r ++ _, rfl, h1, RepVs.append h2 t⟩
theorem RepVs.take : ∀ {xs : List PV} {vs : List V} (n : Nat), RepVs K H xs vs → RepVs K H (xs.take n) (vs.take n)
  | _, _, 0, _ => by simp only [List.take_zero]; exact RepVs.nil
  | [], _, _ + 1, h => by cases (show _ = [] from h); exact RepVs.nil
  | x :: xs, _, n + 1, h => by
    obtain ⟨v, r, rfl, h1, h2⟩ := h
    exact ⟨v, r.take n, rfl, h1, RepVs.take n h2⟩
theorem RepVs.drop : ∀ {xs : List PV} {vs : List V} (n : Nat), RepVs K H xs vs → RepVs K H (xs.drop n) (vs.drop n)
  | _, _, 0, h => by simpa using h
  | [], _, _ + 1, h => by cases (show _ = [] from h); exact RepVs.nil
  | x :: xs, _, n + 1, h => by
    obtain ⟨v, r, rfl, h1, h2⟩ := h
    exact RepVs.drop n h2
theorem RepVs.set {x : PV} {v : V} (hx : RepV K H x v) : ∀ {xs : List PV} {vs : List V} (i : Nat), RepVs K H xs vs → RepVs K H (xs.set i x) (vs.set i v)
  | [], _, _, h => by cases (show _ = [] from h); exact RepVs.nil
  | y :: xs, _, 0, h => by
    obtain ⟨w, r, rfl, h1, h2⟩ := h
    exact ⟨v, r, rfl, hx, h2⟩
  | y :: xs, _, i + 1, h => by
    obtain ⟨w, r, rfl, h1, h2⟩ := h
    exact ⟨w, r.set i v, rfl, h1, RepVs.set hx i h2⟩
theorem RepO.mono (t : TupLe K H H') {o : PO} {h : HO} (r : RepO K H o h) : RepO K H' o h := by
  cases o with
  | lst xs => obtain ⟨vs, e, z, r⟩ := r; exact ⟨vs, e, z, r.mono t⟩
  | frz xs => obtain ⟨o, vs, e, z, r⟩ := r; exact ⟨o, vs, e, z, r.mono t⟩
  | dk kvs => obtain ⟨ks, e, z, e2, r⟩ := r; exact ⟨ks, e, z, e2, r.mono t⟩
  | dt kvs => obtain ⟨ks, e, z, e2, r⟩ := r; exact ⟨ks, e, z, e2, r.mono t⟩
  | ins C fs => obtain ⟨dx, gs, e, z, e2, r⟩ := r; exact ⟨dx, gs, e, z, e2, r.mono t⟩
end

/-- from (μ, H) to (μ', H'): what μ does not know stays, and stays unknown -/
structure Ext (μ : PM) (H : Hp) (μ' : PM) (H' : Hp) : Prop where
  keep : ∀ a o, H a = some o → (∀ ps, o ≠ .tbl ps) → μ a = none → H' a = some o
  dom : ∀ a, H' a = none → H a = none
  new : ∀ a, μ a = none → H a ≠ none → μ' a = none
section
variable {K : PySem.W.Frag} {μ μ' μ1 μ2 : PM} {H H' H1 H2 : Hp}
theorem Ext.refl : Ext μ H μ H := ⟨fun _ _ h _ _ => h, fun _ h => h, fun _ h _ => h⟩
theorem Ext.trans (a : Ext μ H μ1 H1) (b : Ext μ1 H1 μ2 H2) : Ext μ H μ2 H2 where
  keep := fun c o h t n => b.keep c o (a.keep c o h t n) t (a.new c n (by rw [h]; exact fun z => nomatch z))
  dom := fun c h => a.dom c (b.dom c h)
  new := fun c n h => b.new c (a.new c n h) fun z => h (a.dom c z)
theorem RepH.notup (r : RepH K H μ) {a : Addr} {xs : List V} (h : H a = some (.tup xs)) : μ a = none := by
  cases e : μ a with
  | none => rfl
  | some o =>
    obtain ⟨ho, e1, e2⟩ := r a o e
    rw [h] at e1; cases e1
    cases o <;> first | (obtain ⟨_, z, _⟩ := e2; exact nomatch z) | (obtain ⟨_, _, z, _⟩ := e2; exact nomatch z)
theorem RepH.nofrt (r : RepH K H μ) {a : Addr} {o : Obj} {xs : List V} (h : H a = some (.frz o (.tup xs))) : μ a = none := by
  cases e : μ a with
  | none => rfl
  | some p =>
    obtain ⟨ho, e1, e2⟩ := r a p e
    rw [h] at e1; cases e1
    cases p <;> first | (obtain ⟨_, z, _⟩ := e2; exact nomatch z) | (obtain ⟨_, _, z, _⟩ := e2; exact nomatch z)
theorem Ext.tup (e : Ext μ H μ' H') (r : RepH K H μ) : TupLe K H H' := fun a xs h => by
  rcases h with (h | ⟨o, h⟩) | h
  · exact .inl (.inl (e.keep _ _ h (fun _ z => nomatch z) (r.notup h)))
  · exact .inl (.inr ⟨o, e.keep _ _ h (fun _ z => nomatch z) (r.nofrt h)⟩)
  · exact .inr h
/-- a new object that is known -/
theorem Ext.alloc {a : Addr} {o : PO} {h : HO} (n : H a = none) : Ext μ H (up μ a o) (upd H a h) where
  keep := fun b o' h' _ _ => by rw [upd_ne (fun z => by subst z; rw [n] at h'; cases h')]; exact h'
  dom := fun b h' => by
    by_cases e : b = a
    · subst e; exact n
    · rw [upd_ne e] at h'; exact h'
  new := fun b m h' => by rw [up_ne (fun z => by subst z; exact h' n)]; exact m
/-- a new object that is not known -/
theorem Ext.hid {a : Addr} {h : HO} (n : H a = none) : Ext μ H μ (upd H a h) where
  keep := fun b o' h' _ _ => by rw [upd_ne (fun z => by subst z; rw [n] at h'; cases h')]; exact h'
  dom := fun b h' => by
    by_cases e : b = a
    · subst e; exact n
    · rw [upd_ne e] at h'; exact h'
  new := fun b m h' => m
/-- a known object is written -/
theorem Ext.write {a : Addr} {o o1 : PO} {h : HO} (n : μ a = some o1) : Ext μ H (up μ a o) (upd H a h) where
  keep := fun b o' h' _ m => by rw [upd_ne (fun z => by subst z; rw [n] at m; cases m)]; exact h'
  dom := fun b h' => by
    by_cases e : b = a
    · subst e; rw [upd_same] at h'; cases h'
    · rw [upd_ne e] at h'; exact h'
  new := fun b m h' => by rw [up_ne (fun z => by subst z; rw [n] at m; cases m)]; exact m
theorem RepH.ext (r : RepH K H μ) (t : TupLe K H H') (k : ∀ a o h, μ a = some o → H a = some h → H' a = some h) (b : TbOk H') : RepH K H' μ := ⟨fun a o e => by
  obtain ⟨h, e1, e2⟩ := r a o e
  exact ⟨h, k a o h e e1, e2.mono t⟩, b⟩
theorem upd_old {H : Hp} {a : Addr} {h : HO} (n : H a = none) : ∀ b o, H b = some o → upd H a h b = some o := fun b o e => by rw [upd_ne (fun z => by subst z; rw [n] at e; cases e)]; exact e
theorem nk_no {h : HO} (h2 : ∀ xs, h ≠ .tup xs) (h3 : ∀ b xs, h ≠ .frz b (.tup xs)) (h4 : ∀ f, h ≠ .ext f) : ¬ NK h := by
  rintro (⟨xs, e⟩ | ⟨b, xs, e⟩ | ⟨c, q, e⟩)
  · exact h2 xs e
  · exact h3 b xs e
  · exact h4 _ e
theorem RepO.nt {K : PySem.W.Frag} {H : Hp} {o : PO} {h : HO} (r : RepO K H o h) : (∀ ps, h ≠ .tbl ps) ∧ ¬ NK h := by
  cases o with
  | lst xs => obtain ⟨_, rfl, _⟩ := r; exact ⟨(fun _ z => nomatch z), nk_no (fun _ z => nomatch z) (fun _ _ z => nomatch z) (fun _ z => nomatch z)⟩
  | frz xs => obtain ⟨_, _, rfl, _⟩ := r; exact ⟨(fun _ z => nomatch z), nk_no (fun _ z => nomatch z) (fun _ _ z => nomatch z) (fun _ z => nomatch z)⟩
  | dk xs => obtain ⟨_, rfl, _⟩ := r; exact ⟨(fun _ z => nomatch z), nk_no (fun _ z => nomatch z) (fun _ _ z => nomatch z) (fun _ z => nomatch z)⟩
  | dt xs => obtain ⟨_, rfl, _⟩ := r; exact ⟨(fun _ z => nomatch z), nk_no (fun _ z => nomatch z) (fun _ _ z => nomatch z) (fun _ z => nomatch z)⟩
  | ins C fs => obtain ⟨_, _, rfl, _⟩ := r; exact ⟨(fun _ z => nomatch z), nk_no (fun _ z => nomatch z) (fun _ _ z => nomatch z) (fun _ z => nomatch z)⟩
theorem TupLe.upd_new {a : Addr} {h : HO} (n : H a = none) : TupLe K H (upd H a h) := fun b xs q => by
  rcases q with (q | ⟨o, q⟩) | q
  · exact .inl (.inl (by rw [upd_ne (fun z => by subst z; rw [n] at q; cases q)]; exact q))
  · exact .inl (.inr ⟨o, by rw [upd_ne (fun z => by subst z; rw [n] at q; cases q)]; exact q⟩)
  · exact .inr q
theorem RepH.hid (r : RepH K H μ) {a : Addr} {h : HO} (n : H a = none) : RepH K (upd H a h) μ :=
  r.ext (TupLe.upd_new n) (fun b o h' _ e => by rw [upd_ne (fun z => by subst z; rw [n] at e; cases e)]; exact e) (r.tb.ext (upd_old n))
theorem RepH.alloc (r : RepH K H μ) {a : Addr} {o : PO} {h : HO} (n : H a = none) (ro : RepO K (upd H a h) o h) : RepH K (upd H a h) (up μ a o) := ⟨fun b o' e => by
  by_cases z : b = a
  · subst z
    rw [up_same] at e; cases e
    exact ⟨h, upd_same, ro⟩
  · rw [up_ne z] at e
    exact (r.hid n).at_ b o' e, r.tb.ext (upd_old n)⟩
theorem RepH.none (r : RepH K H μ) {a : Addr} (n : H a = none) : μ a = none := by
  cases e : μ a with
  | none => rfl
  | some o => obtain ⟨h, e1, _⟩ := r a o e; rw [n] at e1; cases e1
theorem RepH.tupW (r : RepH K H μ) {a : Addr} {o : PO} {h : HO} (m : μ a = some o) : TupLe K H (upd H a h) := fun b xs q => by
  rcases q with (q | ⟨o, q⟩) | q
  · exact .inl (.inl (by rw [upd_ne (fun z => by subst z; rw [r.notup q] at m; cases m)]; exact q))
  · exact .inl (.inr ⟨o, by rw [upd_ne (fun z => by subst z; rw [r.nofrt q] at m; cases m)]; exact q⟩)
  · exact .inr q
theorem RepH.write (r : RepH K H μ) {a : Addr} {o o1 : PO} {h : HO} (m : μ a = some o1) (ro : RepO K (upd H a h) o h) : RepH K (upd H a h) (up μ a o) := ⟨fun b o' e => by
  by_cases z : b = a
  · subst z
    rw [up_same] at e; cases e
    exact ⟨h, upd_same, ro⟩
  · rw [up_ne z] at e
    obtain ⟨h', e1, e2⟩ := r b o' e
    exact ⟨h', by rw [upd_ne z]; exact e1, e2.mono (r.tupW m)⟩, by
  obtain ⟨h0, e1, e2⟩ := r.at_ a o1 m
  exact r.tb.put e1 e2.nt.1 e2.nt.2⟩
end

/-- less is known -/
def Sub (μ' μ : PM) : Prop := ∀ a o, μ' a = some o → μ a = some o
omit tb in
theorem Sub.refl {μ : PM} : Sub μ μ := fun _ _ h => h
theorem RepH.sub {K : PySem.W.Frag} {H : Hp} {μ μ' : PM} (r : RepH K H μ) (s : Sub μ' μ) : RepH K H μ' := ⟨fun a o e => r a o (s a o e), r.tb⟩
theorem Ext.sub {μ μ1 μ2 : PM} {H H1 : Hp} (e : Ext μ H μ1 H1) (s : Sub μ2 μ1) : Ext μ H μ2 H1 :=
  ⟨e.keep, e.dom, fun a n h => by
    cases z : μ2 a with
    | none => rfl
    | some o => have := s a o z; rw [e.new a n h] at this; cases this⟩

/-- what an expression hands on: a value, or a new list -/
def Res (K : PySem.W.Frag) (H0 : Hp) (μ : PM) (H : Hp) : PV → V → Prop
  | .tmp xs, w => ∃ a vs, w = .ref a ∧ H0 a = none ∧ H a = some (.lst vs) ∧ μ a = none ∧ xs.length ≤ sizeLine ∧ RepVs K H xs vs
  | x, w => RepV K H x w
theorem Res.of {K : PySem.W.Frag} {H0 : Hp} {μ : PM} {H : Hp} {x : PV} {w : V} (h : RepV K H x w) : Res K H0 μ H x w := by
  cases x <;> first | exact h | exact h.elim
theorem Res.ext {K : PySem.W.Frag} {H0 H1 H2 : Hp} {μ1 μ2 : PM} {x : PV} {w : V} (h : Res K H0 μ1 H1 x w) (r : RepH K H1 μ1) (e : Ext μ1 H1 μ2 H2) : Res K H0 μ2 H2 x w := by
  cases x with
  | tmp xs =>
    obtain ⟨a, vs, rfl, n, h1, m, z, q⟩ := h
    exact ⟨a, vs, rfl, n, e.keep _ _ h1 (fun _ z => nomatch z) m, e.new _ m (by rw [h1]; exact fun z => nomatch z), z, q.mono (e.tup r)⟩
  | _ => exact RepV.mono (e.tup r) _ _ h
theorem Res.back {K : PySem.W.Frag} {H0 H1 H2 : Hp} {μ : PM} {x : PV} {w : V} (h : Res K H1 μ H2 x w) (d : ∀ a, H1 a = none → H0 a = none) : Res K H0 μ H2 x w := by
  cases x with
  | tmp xs => obtain ⟨a, vs, rfl, n, q⟩ := h; exact ⟨a, vs, rfl, d a n, q⟩
  | _ => exact h

abbrev PE_ := List (Option PV)
def RepE (K : PySem.W.Frag) (H : Hp) (ρ : PE_) (σ : St) : Prop := ρ.length = σ.length ∧ ∀ (i : Nat) (v : PV), ρ[i]? = some (some v) → ∃ w, σ[i]? = some (some w) ∧ RepV K H v w
theorem RepE.mono {K : PySem.W.Frag} {H H' : Hp} {ρ : PE_} {σ : St} (r : RepE K H ρ σ) (t : TupLe K H H') : RepE K H' ρ σ :=
  ⟨r.1, fun i v e => let ⟨w, a, b⟩ := r.2 i v e; ⟨w, a, b.mono t⟩⟩
theorem RepE.set {K : PySem.W.Frag} {H : Hp} {ρ : PE_} {σ : St} (r : RepE K H ρ σ) (i : Nat) {v : PV} {w : V} (h : RepV K H v w) : RepE K H (ρ.set i (some v)) (σ.set i (some w)) := by
  refine ⟨by simp [r.1], fun j u e => ?_⟩
  by_cases z : i = j
  · subst z
    by_cases l : i < ρ.length
    · rw [List.getElem?_set_self l] at e
      cases e
      exact ⟨w, by rw [List.getElem?_set_self (by rw [← r.1]; exact l)], h⟩
    · rw [List.getElem?_eq_none (by simpa using l)] at e; cases e
  · rw [List.getElem?_set_ne z] at e ⊢
    exact r.2 j u e
theorem RepE.gone {K : PySem.W.Frag} {H : Hp} {ρ : PE_} {σ : St} (r : RepE K H ρ σ) (i : Nat) : RepE K H (ρ.set i none) (σ.set i none) := by
  refine ⟨by simp [r.1], fun j u e => ?_⟩
  by_cases z : i = j
  · subst z
    by_cases l : i < ρ.length
    · rw [List.getElem?_set_self l] at e; cases e
    · rw [List.getElem?_eq_none (by simpa using l)] at e; cases e
  · rw [List.getElem?_set_ne z] at e ⊢
    exact r.2 j u e

/-- an exception: its class by name, its fields -/
structure PX where
  cls : Str
  fs : List (Str × PV) := []
def RepX (K : PySem.W.Frag) (H : Hp) (x : PX) (cls : Value) (d : Option Addr) : Prop :=
  cls = .ref (He.ga K x.cls) ∧ ((x.fs = [] ∧ d = none) ∨ (x.fs ≠ [] ∧ ∃ dd gs, d = some dd ∧ H dd = some (.xd gs) ∧ RepK K H x.fs gs))
abbrev Post := PV → PM → Prop
abbrev XPost := PX → PM → Prop
end G

namespace G
open PySem PySem.Spec PyProof.Rows L2

inductive Op where | add | sub | mul | fdiv | mod | pow
  deriving DecidableEq
inductive Cop where | eq | ne | lt | le | gt | ge | is | isn | isin | nin
  deriving DecidableEq
/-- a class that isinstance asks: a built-in one, an own one -/
inductive Cl where | bt (n : String) | own (c : Str)
  deriving DecidableEq
/-- what is walked -/
inductive IK where | seq | rng | enum | zip | enumzip | zip3 | zip4 | zipL | rev | items | values
  deriving DecidableEq
/-- built-in functions -/
inductive Bf where | len | abs | int | str | list | tuple | sum | max | min | all | any | sorted | setl | repr | dictp | range
  deriving DecidableEq
/-- methods of built-in types -/
inductive Bm where | append | pop | popAt | extend | insert | index | count | split | join | upper | get2 | clear | replace
  deriving DecidableEq

/-- built-in functions that may be called while an exception is handled -/
def bfCool : Bf → Bool
  | .len => true | .abs => true | .int => true | .str => true | .list => true | .tuple => true | .sorted => true
  | _ => false
inductive Tg where
  | nm (i : Nat) | tp (ts : List Tg)

inductive E where
  | var (i : Nat) | cst (v : PV) | gc (x : Str) (v : PV)
  | tup (es : List E) | lst (es : List E) | dct (ks vs : List E)
  | bin (op : Op) (a b : E) | neg (a : E) | not (a : E) | and (a b : E) | or (a b : E)
  | cmp (op : Cop) (a b : E) | chn (op op' : Cop) (a b c : E)
  | ite (c a b : E)
  | call (f : Nat) (as : List E) | new (c : Str) (f : Nat) (as : List E) | meth (c : Str) (m : Str) (f : Nat) (o : E) (as : List E)
  | hcall (f : Nat) (as : List E)
  | bf (b : Bf) (as : List E) | bm (m : Bm) (o : E) (as : List E)
  | isi (e : E) (cs : List Cl) (ts : List Str) (many : Bool)
  | fld (c : Str) (o : E) (f : Str) | idx (o i : E) | slc (o : E) (lo hi : Option E)
  | comp (k : IK) (src : List E) (tg : Tg) (own : List Nat) (cond : List E) (elt : E)
  | lset (e : E) | oeq (neg : Bool) (c : Str) (f : Nat) (a b : E)
  | lam (i : Nat) (cap : List Nat) | callv (f : E) (as : List E)
  | isx (e : E) (cl : Cl) | lamc (f : Nat) (body : E) | act (i : Nat)
  | flat (i j : Nat) (own : List Nat) (e : E)

inductive S where
  | set (i : Nat) (e : E) | setT (ts : List Tg) (e : E) | par (is : List Nat) (es : List E)
  | sub (o i e : E) | att (c : Str) (o : E) (f : Str) (e : E)
  | ex (e : E) | ret (e : E) | retN
  | iff (c : E) (a b : List S)
  | loop (k : IK) (src : List E) (tg : Tg) (body : List S)
  | whl (c : E) (body : List S)
  | brk | cont | pass
  | raise (c : Str) (f : Option Nat) (as : List E)
  | try_ (xs : List Str) (body : List S) (c : Str) (i : Option Nat) (suite : List S)
  | never

def seqOf (μ : PM) : PV → Option (List PV)
  | .tup xs => some xs
  | .tmp xs => some xs
  | .kl xs => some xs
  | .ref a => match μ a with
    | some (.lst xs) => some xs
    | some (.frz xs) => some xs
    | _ => none
  | _ => none
def lstOf (μ : PM) : PV → Option (List PV)
  | .tmp xs => some xs
  | .ref a => match μ a with
    | some (.lst xs) => some xs
    | _ => none
  | _ => none
/-- a new list gets its place -/
def mat (v : PV) (μ : PM) (P : Post) : Prop := match v with
  | .tmp xs => ∀ a, μ a = none → P (.ref a) (up μ a (.lst xs))
  | v => P v μ

def MulOk (i j : Int) : Prop := i.natAbs.log2 + j.natAbs.log2 < 100000000

def binW (op : Op) (x y : PV) (μ : PM) (P : Post) : Prop := match op, x, y with
  | .add, .int i, .int j => P (.int (i + j)) μ
  | .add, .str a, .str b => a.length + b.length ≤ sizeLine ∧ P (.str (a ++ b)) μ
  | .add, .tup a, .tup b => a.length + b.length ≤ sizeLine ∧ P (.tup (a ++ b)) μ
  | .sub, .int i, .int j => P (.int (i - j)) μ
  | .mul, .int i, .int j => MulOk i j ∧ P (.int (i * j)) μ
  | .fdiv, .int i, .int j => 0 < j ∧ Builtin.divisionGoesByPylong i j = false ∧ P (.int (i / j)) μ
  | .mod, .int i, .int j => 0 < j ∧ P (.int (i % j)) μ
  | .pow, .int i, .int j => CPow i j ∧ P (.int (i ^ j.toNat)) μ
  | .mul, .tup a, .int k => a ≠ [] ∧ 1 ≤ k ∧ k ≤ 1000 ∧ a.length ≤ 1000 ∧ P (.tup (List.replicate k.toNat a).flatten) μ
  | .add, x, y => ∃ a b, lstOf μ x = some a ∧ lstOf μ y = some b ∧ a.length + b.length ≤ sizeLine ∧ P (.tmp (a ++ b)) μ
  | .mul, x, .int k => ∃ a, lstOf μ x = some a ∧ -(2 ^ 63) ≤ k ∧ k < 2 ^ 63 ∧ a.length * k.toNat ≤ sizeLine ∧ P (.tmp (List.replicate k.toNat a).flatten) μ
  | _, _, _ => False

mutual
/-- plain data: as the library tells it -/
def toD (μ : PM) : PV → Option PyData
  | .non => some .none
  | .bl b => some (.bool b)
  | .int i => some (.int i)
  | .str x => some (.str x)
  | .tup xs => (toDs μ xs).map .tuple
  | _ => none
def toDs (μ : PM) : List PV → Option (List PyData)
  | [] => some []
  | x :: xs => match toD μ x, toDs μ xs with
    | some d, some ds => some (d :: ds)
    | _, _ => none
end
/-- .. with a list at the top -/
def toDl (μ : PM) (v : PV) : Option PyData := match toD μ v with
  | some d => some d
  | none => match lstOf μ v with
    | some xs => (toDs μ xs).map .list
    | none => none

def flatP : PV → Bool
  | .non => true | .bl _ => true | .int _ => true | .str _ => true | _ => false
def sgn1 (x : Str) : Option Nat := match x.cps.toList with
  | [c] => some c
  | _ => none
def kP : Key → PV
  | .inl i => .int i
  | .inr x => .str x
def keyOfP : PV → Option Key
  | .int i => some (.inl i)
  | .str x => some (.inr x)
  | _ => none
/-- == of flat things -/
def eqP : PV → PV → Bool
  | .non, .non => true
  | .bl a, .bl b => a == b
  | .bl a, .int j => (if a then 1 else 0) == j
  | .int i, .bl b => i == (if b then 1 else 0)
  | .int i, .int j => i == j
  | .str x, .str y => x == y
  | _, _ => false

def isNonP : PV → Bool
  | .non => true
  | _ => false
def cmpW (op : Cop) (x y : PV) (μ : PM) (P : Post) : Prop := match op, x, y with
  | .lt, .int i, .int j => P (.bl (decide (i < j))) μ
  | .le, .int i, .int j => P (.bl (decide (i ≤ j))) μ
  | .gt, .int i, .int j => P (.bl (decide (j < i))) μ
  | .ge, .int i, .int j => P (.bl (decide (j ≤ i))) μ
  | .is, .bl a, .bl b => P (.bl (a == b)) μ
  | .isn, .bl a, .bl b => P (.bl (!(a == b))) μ
  | .is, x, .non => P (.bl (isNonP x)) μ
  | .isn, x, .non => P (.bl (!isNonP x)) μ
  | .eq, .int i, .int j => P (.bl (decide (i = j))) μ
  | .ne, .int i, .int j => P (.bl (!decide (i = j))) μ
  | .eq, .str i, .str j => P (.bl (decide (i = j))) μ
  | .ne, .str i, .str j => P (.bl (!decide (i = j))) μ
  | .eq, .bl i, .bl j => P (.bl (i == j)) μ
  | .ne, .bl i, .bl j => P (.bl (!(i == j))) μ
  | .eq, x, y => ∃ d e, toDl μ x = some d ∧ toDl μ y = some e ∧ SeqAt.shaped d = true ∧ SeqAt.shaped e = true ∧ P (.bl (PyData.eqv d e)) μ
  | .ne, x, y => ∃ d e, toDl μ x = some d ∧ toDl μ y = some e ∧ SeqAt.shaped d = true ∧ SeqAt.shaped e = true ∧ P (.bl (!PyData.eqv d e)) μ
  | .isin, .str c, .str z => ∃ k, sgn1 c = some k ∧ P (.bl (decide (k ∈ z.cps.toList))) μ
  | .nin, .str c, .str z => ∃ k, sgn1 c = some k ∧ P (.bl (!decide (k ∈ z.cps.toList))) μ
  | .isin, x, y => ∃ ys, seqOf μ y = some ys ∧ flatP x = true ∧ ys.all flatP = true ∧ P (.bl (ys.any fun z => eqP z x)) μ
  | .nin, x, y => ∃ ys, seqOf μ y = some ys ∧ flatP x = true ∧ ys.all flatP = true ∧ P (.bl (!ys.any fun z => eqP z x)) μ
  | _, _, _ => False

/-- the type of a value: a built-in one, an own class -/
def tyOf (μ : PM) : PV → Option Cl
  | .non => some (.bt "NoneType")
  | .bl _ => some (.bt "bool")
  | .int _ => some (.bt "int")
  | .str _ => some (.bt "str")
  | .tup _ => some (.bt "tuple")
  | .tmp _ => some (.bt "list")
  | .ref a => match μ a with
    | some (.lst _) => some (.bt "list")
    | some (.frz _) => some (.bt "list")
    | some (.dk _) => some (.bt "dict")
    | some (.dt _) => some (.bt "dict")
    | some (.ins c _) => some (.own c)
    | none => none
  | .ty _ => none
  | .kl _ => none
/-- isinstance, one class: built-in ones by a table, own ones as they stand (no own class over another here) -/
def isOne : Cl → Cl → Bool
  | .bt "bool", .bt "int" => true
  | .bt a, .bt b => a == b
  | .own a, .own b => a == b
  | _, _ => false
def ownIn (ts : List Str) : Cl → Prop
  | .own c => c ∈ ts
  | _ => True
def isiW (v : PV) (cs : List Cl) (ts : List Str) (μ : PM) (P : Post) : Prop := ∃ t, tyOf μ v = some t ∧ ownIn ts t ∧ P (.bl (cs.any (isOne t))) μ

def idxW (o i : PV) (μ : PM) (P : Post) : Prop := match o, i with
  | .str z, .int i => ∃ c, atI z.cps.toList i = some c ∧ P (.str ⟨#[c]⟩) μ
  | o, .int i => ∃ xs v, seqOf μ o = some xs ∧ atI xs i = some v ∧ P v μ
  | _, _ => False
def cutP (xs : List PV) (lo hi : Option Int) : List PV := (xs.drop (HT.sIx xs.length 0 lo)).take (HT.sIx xs.length xs.length hi - HT.sIx xs.length 0 lo)
def slcW (o : PV) (lo hi : Option Int) (μ : PM) (P : Post) : Prop := match o with
  | .str z => P (.str (cutS z lo hi)) μ
  | .tup xs => P (.tup (cutP xs lo hi)) μ
  | o => ∃ xs, seqOf μ o = some xs ∧ P (.tmp (cutP xs lo hi)) μ
def intOf : PV → Option Int
  | .int i => some i
  | _ => none
def blOf : PV → Option Bool
  | .bl b => some b
  | _ => none
def strOf : PV → Option Str
  | .str x => some x
  | _ => none
def allOf {α : Type} (f : PV → Option α) : List PV → Option (List α)
  | [] => some []
  | x :: xs => match f x, allOf f xs with
    | some a, some r => some (a :: r)
    | _, _ => none

def bfW (b : Bf) (as : List PV) (μ : PM) (P : Post) : Prop := match b, as with
  | .len, [.str z] => P (.int z.length) μ
  | .len, [x] => (∃ xs, seqOf μ x = some xs ∧ P (.int xs.length) μ) ∨ (∃ a kvs, x = .ref a ∧ μ a = some (.dk kvs) ∧ P (.int kvs.length) μ)
  | .abs, [.int i] => P (.int (if i < 0 then -i else i)) μ
  | .int, [.int i] => P (.int i) μ
  | .int, [.bl k] => P (.int (if k then 1 else 0)) μ
  | .int, [.str z] => ∃ n, PySem.intText? z = some n ∧ z.length ≤ 640 ∧ P (.int n) μ
  | .str, [.int i] => i.natAbs.log2 < 1920 ∧ (toString i : Str).length ≤ sizeLine ∧ P (.str (toString i)) μ
  | .str, [.str z] => P (.str z) μ
  | .list, [x] => ∃ xs, seqOf μ x = some xs ∧ P (.tmp xs) μ
  | .tuple, [x] => ∃ xs, seqOf μ x = some xs ∧ P (.tup xs) μ
  | .sum, [x] => ∃ xs ns, lstOf μ x = some xs ∧ allOf intOf xs = some ns ∧ P (.int ns.sum) μ
  | .max, [.int i, .int j] => P (.int (if j > i then j else i)) μ
  | .min, [.int i, .int j] => P (.int (if j < i then j else i)) μ
  | .min, [.int i, .int j, .int k, .int l] => ∀ m, m ∈ [i, j, k, l] → (∀ y ∈ [i, j, k, l], m ≤ y) → P (.int m) μ
  | .all, [x] => ∃ xs bs, lstOf μ x = some xs ∧ allOf blOf xs = some bs ∧ P (.bl (bs.all id)) μ
  | .any, [x] => ∃ xs bs, lstOf μ x = some xs ∧ allOf blOf xs = some bs ∧ P (.bl (bs.any id)) μ
  | .max, [x] => ∃ xs ns, lstOf μ x = some xs ∧ allOf intOf xs = some ns ∧ 0 < ns.length ∧ ∀ m, m ∈ ns → (∀ y, y ∈ ns → y ≤ m) → P (.int m) μ
  | .min, [x] => ∃ xs ns, lstOf μ x = some xs ∧ allOf intOf xs = some ns ∧ 0 < ns.length ∧ ∀ m, m ∈ ns → (∀ y, y ∈ ns → m ≤ y) → P (.int m) μ
  | .sorted, [x] => ∃ xs ns, lstOf μ x = some xs ∧ allOf intOf xs = some ns ∧ ∀ ns' : List Int, ns'.Perm ns → ns'.Pairwise (· ≤ ·) → P (.tmp (ns'.map .int)) μ
  | _, _ => False

def bmTy : Bm → String
  | .split => "str" | .join => "str" | .upper => "str" | .replace => "str" | .get2 => "dict" | .clear => "dict" | _ => "list"
def bmT (m : Bm) (x : PV) (μ : PM) : Prop := match bmTy m with
  | "str" => ∃ z, x = .str z
  | "list" => ∃ xs, lstOf μ x = some xs
  | _ => False
/-- each text where it comes first -/
def firsts (ss : List Str) : List Str := ss.foldl (fun acc x => if x ∈ acc then acc else acc ++ [x]) []
/-- methods of built-in things -/
def bmW (m : Bm) (o : PV) (as : List PV) (μ : PM) (P : Post) : Prop := match m, o, as with
  | .append, .ref a, [v] => ∃ xs, μ a = some (.lst xs) ∧ xs.length < 10000000 ∧ P .non (up μ a (.lst (xs ++ [v])))
  | .extend, .ref a, [v] => ∃ xs ys, μ a = some (.lst xs) ∧ lstOf μ v = some ys ∧ xs.length + ys.length < 10000000 ∧ P .non (up μ a (.lst (xs ++ ys)))
  | .pop, .ref a, [] => ∃ xs y, μ a = some (.lst xs) ∧ xs[xs.length - 1]? = some y ∧ P y (up μ a (.lst xs.dropLast))
  | .join, .str z, [x] => ∃ xs ss, seqOf μ x = some xs ∧ allOf strOf xs = some ss ∧ (ss.map (·.length)).sum + ss.length * z.length ≤ 10000000 ∧ (Txt.join z ss).length ≤ sizeLine ∧ P (.str (Txt.join z ss)) μ
  | .split, .str z, [.str b] => (b.length == 0) = false ∧ z.length + 2 ≤ sizeLine ∧ (Txt.split z b).length ≤ sizeLine ∧ (∀ y ∈ Txt.split z b, y.length ≤ sizeLine) ∧ P (.tmp ((Txt.split z b).map .str)) μ
  | .index, o, [v] => ∃ (xs : List PV) (j : Nat), lstOf μ o = some xs ∧ flatP v = true ∧ xs.all flatP = true ∧ xs.findIdx? (fun y => eqP y v) = some j ∧ P (.int (j : Nat)) μ
  | .count, o, [v] => ∃ xs, lstOf μ o = some xs ∧ flatP v = true ∧ xs.all flatP = true ∧ P (.int (xs.countP fun y => eqP y v : Nat)) μ
  | _, _, _ => False

/-- what is walked, item by item -/
def strItems (z : Str) : List PV := z.cps.toList.map fun c => .str ⟨#[c]⟩
def rngItems (lo : Int) (n : Nat) : List PV := (List.range n).map fun (i : Nat) => .int (lo + i)
def itS (μ : PM) : PV → Option (List PV)
  | .str z => some (strItems z)
  | v => seqOf μ v
def zip4P (xs1 xs2 xs3 xs4 : List PV) : List PV := (xs1.zip (xs2.zip (xs3.zip xs4))).map fun q => PV.tup [q.1, q.2.1, q.2.2.1, q.2.2.2]
def itemsOf (μ : PM) : IK → List PV → Option (List PV)
  | .seq, [x] => itS μ x
  | .rng, [.int j] => if -(2 ^ 62) ≤ j ∧ j ≤ 1000000 then some (rngItems 0 j.toNat) else none
  | .rng, [.int i, .int j] => if (-(2 ^ 62) ≤ i ∧ i < 2 ^ 62 ∧ -(2 ^ 62) ≤ j ∧ j < 2 ^ 62 ∧ j ≤ i + 1000000) then some (rngItems i (j - i).toNat) else none
  | .enum, [x] => (itS μ x).map fun xs => (List.range xs.length).zipWith (fun (i : Nat) v => PV.tup [.int i, v]) xs
  | .zip, [x, y] => match itS μ x, itS μ y with
    | some xs, some ys => some (xs.zipWith (fun a b => PV.tup [a, b]) ys)
    | _, _ => none
  | .enumzip, [x, y] => match itS μ x, itS μ y with
    | some xs, some ys => some ((List.range (min xs.length ys.length)).zipWith (fun (i : Nat) v => PV.tup [.int i, v]) (xs.zipWith (fun a b => PV.tup [a, b]) ys))
    | _, _ => none
  | .zipL, [x, y] => match lstOf μ x, lstOf μ y with
    | some xs, some ys => some (xs.zipWith (fun a b => PV.tup [a, b]) ys)
    | _, _ => none
  | .zip4, [x1, x2, x3, x4] => match itS μ x1, itS μ x2, itS μ x3, itS μ x4 with
    | some xs1, some xs2, some xs3, some xs4 => some (zip4P xs1 xs2 xs3 xs4)
    | _, _, _, _ => none
  | _, _ => none

structure PEnds where
  nx : PE_ → PM → Prop
  rt : Post
  bk : PE_ → PM → Prop
  ct : PE_ → PM → Prop
  rs : PX → PE_ → PM → Prop

def putP (f : Str) (v : PV) : List (Str × PV) → List (Str × PV)
  | [] => [(f, v)]
  | p :: r => if p.1 = f then (f, v) :: r else p :: putP f v r

/-- what a context has besides: the exception that is handled (its place, its class), the thunk that was handed in -/
structure Ev where
  ex : Option (Addr × Str) := none
  th : Option (Addr × (PM → Post → XPost → Prop)) := none
  hf : Nat → Addr × Str → List PV → PM → Post → Prop := fun _ _ _ _ _ => False
structure Calls where
  mk_ ::
  fn : Nat → List PV → PM → Post → XPost → Prop
  mk : Nat → List PV → PM → Post → XPost → Prop
  lf : Nat → (PM → Post → XPost → Prop) → PM → Post → XPost → Prop
  fp : Nat → List PV → PM → Post → XPost → Prop
  mp : Nat → List PV → PM → Post → XPost → Prop
  fl : Nat → List PV → PM → Post → XPost → Prop
  ml : Nat → List PV → PM → Post → XPost → Prop
  ev : Ev := {}
def noF : Nat → List PV → PM → Post → XPost → Prop := fun _ _ _ _ _ => False
def noLfn : Nat → (PM → Post → XPost → Prop) → PM → Post → XPost → Prop := fun _ _ _ _ _ => False
/-- no calls at all -/
def Calls.none (ev : Ev) : Calls := ⟨noF, noF, noLfn, noF, noF, noF, noF, ev⟩
/-- two frames deeper -/
def Calls.low (C : Calls) : Calls := ⟨C.fl, C.ml, noLfn, noF, noF, noF, noF, {}⟩
def Calls.wx (C : Calls) (p : Addr × Str) : Calls := ⟨C.fn, C.mk, C.lf, C.fp, C.mp, C.fl, C.ml, { ex := some p, hf := C.ev.hf }⟩
/-- an own exception class over another (the package's errors: all below GrainError, below ValueError) -/
def exIs (c : Str) : Cl → Bool
  | .own d => c == d || d == "GrainError"
  | .bt n => n == "ValueError"

mutual
def asgT : Tg → PV → PE_ → PM → (PE_ → PM → Prop) → Prop
  | .nm i, v, ρ, μ, k => k (ρ.set i (some v)) μ
  | .tp ts, v, ρ, μ, k => ∃ vs, seqOf μ v = some vs ∧ asgTs ts vs ρ μ k
def asgTs : List Tg → List PV → PE_ → PM → (PE_ → PM → Prop) → Prop
  | [], [], ρ, μ, k => k ρ μ
  | t :: ts, v :: vs, ρ, μ, k => asgT t v ρ μ fun ρ' μ' => asgTs ts vs ρ' μ' k
  | _, _, _, _, _ => False
end

def wipeP (ρ : PE_) : List Nat → PE_
  | [] => ρ
  | v :: vs => (wipeP ρ vs).set v none

/-- a walk: st: the thing walked stands as it was -/
def walkW (st : PM → Prop) (step : PV → PE_ → PM → (PE_ → PM → Prop) → Prop) (nx : PE_ → PM → Prop) : List PV → PE_ → PM → Prop
  | [], ρ, μ => st μ ∧ nx ρ μ
  | x :: xs, ρ, μ => st μ ∧ step x ρ μ fun ρ' μ' => walkW st step nx xs ρ' μ'
/-- a comprehension's walk -/
def compW (st : PM → Prop) (step : PV → PM → (Option PV → PM → Prop) → Prop) (fin : List PV → PM → Prop) : List PV → List PV → PM → Prop
  | [], acc, μ => st μ ∧ fin acc μ
  | x :: xs, acc, μ => st μ ∧ step x μ fun o μ' => match o with
    | some y => compW st step fin xs (acc ++ [y]) μ'
    | none => compW st step fin xs acc μ'

mutual
def wpE (C : Calls) : E → PE_ → PM → Post → XPost → Prop
  | .var i, ρ, μ, P, X => ∃ v, ρ[i]? = some (some v) ∧ P v μ
  | .cst v, ρ, μ, P, X => P v μ
  | .gc _ v, ρ, μ, P, X => P v μ
  | .tup es, ρ, μ, P, X => wpEs C es ρ μ (fun vs μ' => vs.length ≤ 1000 ∧ P (.tup vs) μ') X
  | .lst es, ρ, μ, P, X => wpEs C es ρ μ (fun vs μ' => vs.length ≤ 1000 ∧ P (.tmp vs) μ') X
  | .dct ks vs, ρ, μ, P, X => ks = [] ∧ vs = [] ∧ ∀ a, μ a = none → P (.ref a) (up μ a (.dk []))
  | .bin op a b, ρ, μ, P, X => wpE C a ρ μ (fun x μ1 => wpE C b ρ μ1 (fun y μ2 => binW op x y μ2 P) X) X
  | .neg a, ρ, μ, P, X => wpE C a ρ μ (fun x μ1 => ∃ i, x = .int i ∧ P (.int (-i)) μ1) X
  | .not a, ρ, μ, P, X => wpE C a ρ μ (fun x μ1 => ∃ b, x = .bl b ∧ P (.bl (!b)) μ1) X
  | .and a b, ρ, μ, P, X => wpE C a ρ μ (fun x μ1 => ∃ c, x = .bl c ∧ if c = true then wpE C b ρ μ1 P X else P (.bl false) μ1) X
  | .or a b, ρ, μ, P, X => wpE C a ρ μ (fun x μ1 => ∃ c, x = .bl c ∧ if c = true then P (.bl true) μ1 else wpE C b ρ μ1 P X) X
  | .cmp op a b, ρ, μ, P, X => wpE C a ρ μ (fun x μ1 => wpE C b ρ μ1 (fun y μ2 => cmpW op x y μ2 P) X) X
  | .chn op op' a b c, ρ, μ, P, X => wpE C a ρ μ (fun x μ1 => wpE C b ρ μ1 (fun y μ2 => cmpW op x y μ2 fun z μ3 => ∃ k, z = .bl k ∧
      if k = true then wpE C c ρ μ3 (fun w μ4 => cmpW op' y w μ4 P) X else P (.bl false) μ3) X) X
  | .ite c a b, ρ, μ, P, X => wpE C c ρ μ (fun x μ1 => ∃ k, x = .bl k ∧ if k = true then wpE C a ρ μ1 P X else wpE C b ρ μ1 P X) X
  | .call f as, ρ, μ, P, X => wpEs C as ρ μ (fun vs μ1 => C.fn f vs μ1 P X) X
  | .new c f as, ρ, μ, P, X => wpEs C as ρ μ (fun vs μ1 => ∀ a, μ1 a = none → C.mk f (.ref a :: vs) (up μ1 a (.ins c [])) (fun v μ2 => v = .non ∧ P (.ref a) μ2) X) X
  | .meth c m f o as, ρ, μ, P, X => wpE C o ρ μ (fun x μ1 => ∃ a fs, x = .ref a ∧ μ1 a = some (.ins c fs) ∧ fs.lookup m = none ∧ wpEs C as ρ μ1 (fun vs μ2 => C.fn f (x :: vs) μ2 P X) X) X
  | .bf b as, ρ, μ, P, X => wpRs C as ρ μ (fun vs μ1 => bfW b vs μ1 P) X
  | .hcall f as, ρ, μ, P, X => wpEs C as ρ μ (fun vs μ1 => match C.ev.ex with
    | some p => C.ev.hf f p vs μ1 P
    | none => False) X
  | .bm m o as, ρ, μ, P, X => wpE C o ρ μ (fun x μ1 => bmT m x μ1 ∧ wpEs C as ρ μ1 (fun vs μ2 => bmW m x vs μ2 P) X) X
  | .lset e, ρ, μ, P, X => wpE C e ρ μ (fun x μ1 => ∃ xs ss, x = .tup xs ∧ allOf strOf xs = some ss ∧ ss.length ≤ 1000 ∧ P (.int (firsts ss).length) μ1) X
  | .oeq false c f a b, ρ, μ, P, X => false = false ∧ wpE C a ρ μ (fun x μ1 => wpE C b ρ μ1 (fun y μ2 => ∃ p q fs gs, x = .ref p ∧ y = .ref q ∧ μ2 p = some (.ins c fs) ∧ μ2 q = some (.ins c gs) ∧ C.fn f [x, y] μ2 P (fun _ _ => False)) X) X
  | .oeq true c f a b, ρ, μ, P, X => wpE C a ρ μ (fun x μ1 => wpE C b ρ μ1 (fun y μ2 => ∃ p q fs gs, x = .ref p ∧ y = .ref q ∧ μ2 p = some (.ins c fs) ∧ μ2 q = some (.ins c gs) ∧ C.mk f [x, y] μ2 (fun v μ' => ∃ k, v = .bl k ∧ P (.bl (!k)) μ') (fun _ _ => False)) X) X
  | .isi e cs ts _, ρ, μ, P, X => wpE C e ρ μ (fun x μ1 => isiW x cs ts μ1 P) X
  | .fld c o f, ρ, μ, P, X => wpE C o ρ μ (fun x μ1 => ∃ a fs v, x = .ref a ∧ μ1 a = some (.ins c fs) ∧ fs.lookup f = some v ∧ P v μ1) X
  | .idx o i, ρ, μ, P, X => wpE C o ρ μ (fun x μ1 => wpE C i ρ μ1 (fun y μ2 => idxW x y μ2 P) X) X
  | .slc o lo hi, ρ, μ, P, X => wpE C o ρ μ (fun x μ1 => wpO C lo ρ μ1 (fun l μ2 => wpO C hi ρ μ2 (fun h μ3 => slcW x l h μ3 P) X) X) X
  | .comp k src tg own cond elt, ρ, μ, P, X => wpRs C src ρ μ (fun vs μ1 => ∃ items, itemsOf μ1 k vs = some items ∧
      compW (fun μ' => itemsOf μ' k vs = some items) (fun x μ' k' => asgT tg x (wipeP ρ own) μ' fun ρ2 μ2 => wpCs C cond ρ2 μ2 (fun b μ3 => if b = true then wpE C elt ρ2 μ3 (fun y μ4 => mat y μ4 fun y' μ5 => k' (some y') μ5) (fun _ _ => False) else k' none μ3))
        (fun acc μ' => P (.tmp acc) μ') items [] μ1) X
  | .lam _ _, ρ, μ, P, X => False
  | .flat i j _ e, ρ, μ, P, X => wpE C e ρ μ (fun v μ1 => ∃ xss : List (List PV), v = .tup (xss.map .tup) ∧ xss.flatten.length ≤ 1000 ∧ i < ρ.length ∧ j < ρ.length ∧ P (.tmp xss.flatten) μ1) X
  | .isx e cl, ρ, μ, P, X => wpE C e ρ μ (fun v μ1 => ∃ a c, v = .ref a ∧ C.ev.ex = some (a, c) ∧ P (.bl (exIs c cl)) μ1) X
  | .lamc f body, ρ, μ, P, X => C.lf f (fun μ' P' X' => wpE C.low body ρ μ' P' X') μ P X
  | .act i, ρ, μ, P, X => ∃ a T, ρ[i]? = some (some (.ref a)) ∧ C.ev.th = some (a, T) ∧ T μ P X
  | .callv _ _, ρ, μ, P, X => False
/-- arguments, items: each gets its place -/
def wpEs (C : Calls) : List E → PE_ → PM → (List PV → PM → Prop) → XPost → Prop
  | [], ρ, μ, P, X => P [] μ
  | e :: es, ρ, μ, P, X => wpE C e ρ μ (fun v μ1 => mat v μ1 fun v' μ2 => wpEs C es ρ μ2 (fun vs μ3 => P (v' :: vs) μ3) X) X
/-- .. as they are -/
def wpRs (C : Calls) : List E → PE_ → PM → (List PV → PM → Prop) → XPost → Prop
  | [], ρ, μ, P, X => P [] μ
  | e :: es, ρ, μ, P, X => wpE C e ρ μ (fun v μ1 => wpRs C es ρ μ1 (fun vs μ2 => P (v :: vs) μ2) X) X
def wpO (C : Calls) : Option E → PE_ → PM → (Option Int → PM → Prop) → XPost → Prop
  | none, ρ, μ, P, X => P none μ
  | some e, ρ, μ, P, X => wpE C e ρ μ (fun v μ1 => ∃ i, v = .int i ∧ P (some i) μ1) X
def wpCs (C : Calls) : List E → PE_ → PM → (Bool → PM → Prop) → Prop
  | [], ρ, μ, P => P true μ
  | [c], ρ, μ, P => wpE C c ρ μ (fun v μ1 => ∃ b, v = .bl b ∧ P b μ1) (fun _ _ => False)
  | _, ρ, μ, P => False
end
mutual
def wpS (C : Calls) : S → PEnds → PE_ → PM → Prop
  | .set i e, D, ρ, μ => wpE C e ρ μ (fun v μ1 => mat v μ1 fun v' μ2 => D.nx (ρ.set i (some v')) μ2) (fun x μ' => D.rs x ρ μ')
  | .setT ts e, D, ρ, μ => wpE C e ρ μ (fun v μ1 => asgT (.tp ts) v ρ μ1 D.nx) (fun x μ' => D.rs x ρ μ')
  | .par is es, D, ρ, μ => wpEs C es ρ μ (fun vs μ1 => is.length = vs.length ∧ D.nx ((is.zip vs).foldl (fun r (p : Nat × PV) => r.set p.1 (some p.2)) ρ) μ1) (fun x μ' => D.rs x ρ μ')
  | .sub o i e, D, ρ, μ => wpE C e ρ μ (fun v μ1 => mat v μ1 fun v' μ2 => wpE C o ρ μ2 (fun x μ3 => wpE C i ρ μ3 (fun y μ4 => ∃ a j xs k, x = .ref a ∧ y = .int j ∧ μ4 a = some (.lst xs) ∧ ixN xs.length j = some k ∧
      D.nx ρ (up μ4 a (.lst (xs.set k v')))) (fun x μ' => D.rs x ρ μ')) (fun x μ' => D.rs x ρ μ')) (fun x μ' => D.rs x ρ μ')
  | .att c o f e, D, ρ, μ => wpE C e ρ μ (fun v μ1 => mat v μ1 fun v' μ2 => wpE C o ρ μ2 (fun x μ3 => ∃ a fs, x = .ref a ∧ μ3 a = some (.ins c fs) ∧ fs.length < 1000 ∧
      D.nx ρ (up μ3 a (.ins c (putP f v' fs)))) (fun x μ' => D.rs x ρ μ')) (fun x μ' => D.rs x ρ μ')
  | .ex e, D, ρ, μ => wpE C e ρ μ (fun _ μ1 => D.nx ρ μ1) (fun x μ' => D.rs x ρ μ')
  | .ret e, D, ρ, μ => wpE C e ρ μ (fun v μ1 => mat v μ1 D.rt) (fun x μ' => D.rs x ρ μ')
  | .retN, D, ρ, μ => D.rt .non μ
  | .iff c a b, D, ρ, μ => wpE C c ρ μ (fun v μ1 => ∃ k, v = .bl k ∧ if k = true then wpSs C a D ρ μ1 else wpSs C b D ρ μ1) (fun x μ' => D.rs x ρ μ')
  | .loop k src tg body, D, ρ, μ => wpRs C src ρ μ (fun vs μ1 => ∃ items, itemsOf μ1 k vs = some items ∧
      walkW (fun μ' => itemsOf μ' k vs = some items) (fun x ρ' μ' k' => asgT tg x ρ' μ' fun ρ2 μ2 => wpSs C body { D with nx := k', ct := k', bk := D.nx } ρ2 μ2) D.nx items ρ μ1) (fun x μ' => D.rs x ρ μ')
  | .whl c body, D, ρ, μ => ∃ W : Nat → PE_ → PM → Prop, (∃ m, W m ρ μ) ∧ ∀ m ρ μ, W m ρ μ → wpE C c ρ μ (fun v μ1 => ∃ k, v = .bl k ∧
      if k = true then wpSs C body { D with nx := fun ρ' μ' => ∃ m', m' < m ∧ W m' ρ' μ', ct := fun ρ' μ' => ∃ m', m' < m ∧ W m' ρ' μ', bk := D.nx } ρ μ1 else D.nx ρ μ1) (fun x μ' => D.rs x ρ μ')
  | .brk, D, ρ, μ => D.bk ρ μ
  | .cont, D, ρ, μ => D.ct ρ μ
  | .pass, D, ρ, μ => D.nx ρ μ
  | .raise c f as, D, ρ, μ => f = none ∧ as = [] ∧ D.rs ⟨c, []⟩ ρ μ
  | .try_ xs body c o suite, D, ρ, μ => ∃ i, o = some i ∧ wpSs C body { D with rs := fun x ρ' μ' => x.cls ∈ xs ∧ if exIs x.cls (.own c) = true then x.fs = [] ∧ ∀ a, μ' a = none → wpSs (C.wx (a, x.cls)) suite { nx := fun ρ2 μ2 => D.nx (ρ2.set i none) μ2, rt := D.rt, bk := fun ρ2 μ2 => D.bk (ρ2.set i none) μ2, ct := fun ρ2 μ2 => D.ct (ρ2.set i none) μ2, rs := fun _ _ _ => False } (ρ'.set i (some (.ref a))) μ' else D.rs x ρ' μ' } ρ μ
  | .never, D, ρ, μ => False
def wpSs (C : Calls) : List S → PEnds → PE_ → PM → Prop
  | [], D, ρ, μ => D.nx ρ μ
  | s :: ss, D, ρ, μ => wpS C s { D with nx := fun ρ' μ' => wpSs C ss D ρ' μ' } ρ μ
end

structure FI where
  N : Nat
  ps : Nat
  body : List S
def startP (n : Nat) (vs : List PV) : PE_ := vs.map some ++ List.replicate (n - vs.length) none
/-- a def that is called while p is handled -/
def hotF (FT : Nat → Option FI) (f : Nat) (p : Addr × Str) (vs : List PV) (μ : PM) (P : Post) : Prop := match FT f with
  | some fi => vs.length = fi.ps ∧ wpSs (Calls.none { ex := some p }) fi.body { nx := fun _ μ' => P .non μ', rt := P, bk := fun _ _ => False, ct := fun _ _ => False, rs := fun _ _ _ => False } (startP fi.N vs) μ
  | none => False
/-- behind a call less may be known -/
def CS2 (FT : Nat → Option FI) : Nat → Calls
  | 0 => ⟨noF, noF, noLfn, noF, noF, noF, noF, {}⟩
  | k + 1 => ⟨fun f vs μ P X => match FT f with
    | some fi => vs.length = fi.ps ∧ ((CS2 FT k).fn f vs μ P X ∨ (0 < k ∧ wpSs (CS2 FT k) fi.body { nx := fun _ μ' => P .non μ', rt := fun v μ' => ∃ μ'', Sub μ'' μ' ∧ P v μ'', bk := fun _ _ => False, ct := fun _ _ => False, rs := fun x _ μ' => ∃ μ'', Sub μ'' μ' ∧ X x μ'' } (startP fi.N vs) μ))
    | none => False, (CS2 FT k).fn,
    fun f T μ P X => 2 ≤ k ∧ match FT f with
    | some fi => fi.ps = 1 ∧ ∀ a, μ a = none → wpSs (Calls.none { th := some (a, T), hf := hotF FT }) fi.body { nx := fun _ μ' => P .non μ', rt := P, bk := fun _ _ => False, ct := fun _ _ => False, rs := fun _ _ _ => False } (startP fi.N [.ref a]) μ
    | none => False,
    (CS2 FT k).fn, (CS2 FT k).mk, (CS2 FT k).fp, (CS2 FT k).mp, {}⟩
/-- .. in a context that has something besides -/
def CX2 (FT : Nat → Option FI) (k : Nat) (ev : Ev) : Calls := ⟨(CS2 FT k).fn, (CS2 FT k).mk, (CS2 FT k).lf, (CS2 FT k).fp, (CS2 FT k).mp, (CS2 FT k).fl, (CS2 FT k).ml, ev⟩
end G

namespace G
open PySem PySem.Spec PyProof PyProof.Rows L2
theorem args_min4 (p q r z : Value) : argsOk "min" ⟨[p, q, r, z], []⟩ := by unfold argsOk; kernel_rfl
section
variable {pg : Program} {w : World} {A : Around} {E : Value → Shared → Prop} {s : Shared}
theorem min_four {p q r z : Value} {Q : Value → Shared → Prop}
    (h : wpAny (model pg w) A.in1 (pyIter (.ref s.heap.objs.size)) (fun it s2 => ∃ I fp wr n P St bt, it = .ref I ∧ Walks pg w A.in1 I fp wr n P St ∧ St 0 s2.heap ∧ (∀ y ∈ fp, y < s2.heap.objs.size) ∧ 0 < n ∧ CmpOf pg w A.in1 .Lt P bt ∧
      ∀ v h' tk, P (argBest bt (n - 1)) v → (∀ y o, y ∉ wr → s2.heap.get? y = some o → h'.get? y = some o) → Q v { s2 with heap := h', toks := tk }) E
      { s with heap := s.heap.push { cls := .type "tuple", data := .seq #[p, q, r, z] } }) :
    wpAny (model pg w) A (call (.builtin "min") [p, q, r, z]) Q E s := by
  have nm : (toString "min" ++ toString ".loop" : String) = "min.loop" := by decide
  refine call_function_tree F.kind_min F.plain_min F.entry_min (args_min4 p q r z) ?_
  show wpAny _ A.in1 (Builtin.Builtins.bindParams "min" ["key", "default"] 0 ⟨[], []⟩ >>= _) _ _ s
  refine wpAny_bind (wpAny_of_eq (show Builtin.Builtins.bindParams "min" ["key", "default"] 0 ⟨[], []⟩ = pure [none, none] from Eq.refl _) ?_)
  show wpAny _ A.in1 (newTuple [p, q, r, z] >>= _) _ _ s
  refine wpAny_bind (wpAny_newObj_type ?_)
  refine wpAny_bind (wpAny_mono h (fun it s2 g => ?_) fun _ _ e => e)
  obtain ⟨I, fp, wr, n, P, St, bt, rfl, W, st0, fresh, hn, cmp, fin⟩ := g
  refine wpAny_bind (wpAny_newObj_type ?_)
  have nf : s2.heap.objs.size ∉ fp := fun hm => Nat.lt_irrefl _ (fresh _ hm)
  rw [nm]
  refine wpAny_pure ⟨plainId_quiet F.plain_min_loop _, codeAny_min_loop_first W bt cmp s2.heap.objs.size nf hn (W.frame _ _ _ st0 fun y _ o e => Heap.get?_push_of_some _ e) (Heap.get?_push_size _ rfl) fun v h' tk hP hk => fin v h' tk hP fun y o ny e => ?_⟩
  exact hk y o ny (Nat.ne_of_lt (Heap.lt_size e)) (Heap.get?_push_of_some _ e)
theorem min_four_ints {a b c d : Int} {t u x y : Tok} {Q : Value → Shared → Prop} (hh : A.handled = none)
    (h : ∀ m tm h' tk, m ∈ [a, b, c, d] → (∀ z ∈ [a, b, c, d], m ≤ z) → (∀ e o, s.heap.get? e = some o → h'.get? e = some o) → Q (.int m tm) { s with heap := h', toks := tk }) :
    wpAny (model pg w) A (call (.builtin "min") [.int a t, .int b u, .int c x, .int d y]) Q E s := by
  have e4 : (#[Value.int a t, .int b u, .int c x, .int d y] : Array Value) = intItems #[(a, t), (b, u), (c, x), (d, y)] := by simp [intItems]
  have hT : (s.heap.push { cls := .type "tuple", data := .seq #[.int a t, .int b u, .int c x, .int d y] }).IsTuple s.heap.objs.size (intItems #[(a, t), (b, u), (c, x), (d, y)]) := ⟨_, Heap.get?_push_size _ rfl, rfl, 0, by rw [← e4]⟩
  refine min_four (wpAny_pyIter_tuple hT ?_)
  have sz : (s.heap.push { cls := .type "tuple", data := .seq #[.int a t, .int b u, .int c x, .int d y] }).objs.size = s.heap.objs.size + 1 := Heap.size_push ..
  refine ⟨_, [_, s.heap.objs.size], [_], _, _, _, _, rfl, Walks.tuple (A := A.in1) hh _ s.heap.objs.size (by rw [sz]; exact Nat.ne_of_lt (Nat.lt_succ_self _)) (intItems #[(a, t), (b, u), (c, x), (d, y)]),
    ⟨⟨_, Heap.get?_push_size _ rfl, rfl, rfl⟩, hT.push _⟩, fun e he => ?_, by simp [intItems], CmpOf.ints_lt (numAt #[(a, t), (b, u), (c, x), (d, y)]) (fun _ _ => intItems_at), fun v h' tk hP hk => ?_⟩
  · show e < ((s.heap.push _).push _).objs.size
    rw [Heap.size_push, sz]
    simp only [List.mem_cons, List.not_mem_nil, or_false] at he
    rcases he with rfl | rfl
    · rw [sz]; exact Nat.lt_succ_self _
    · exact Nat.lt_succ_of_lt (Nat.lt_succ_self _)
  · have old : ∀ e o, s.heap.get? e = some o → h'.get? e = some o := fun e o g => by
      refine hk e o (fun hm => ?_) (Heap.get?_push_of_some _ (Heap.get?_push_of_some _ g))
      rw [List.mem_singleton] at hm
      have := Heap.lt_size g
      rw [hm, sz] at this
      exact Nat.lt_irrefl _ (Nat.lt_of_succ_lt this)
    obtain ⟨l1, l2⟩ := argBest_lt (numAt #[(a, t), (b, u), (c, x), (d, y)]) 3
    have n4 : (intItems #[(a, t), (b, u), (c, x), (d, y)]).size - 1 = 3 := by simp [intItems]
    rw [n4] at hP
    generalize argBest (fun i j => decide (numAt #[(a, t), (b, u), (c, x), (d, y)] i < numAt #[(a, t), (b, u), (c, x), (d, y)] j)) 3 = i at hP l1 l2
    have hP' : (intItems #[(a, t), (b, u), (c, x), (d, y)])[i]? = some v := hP
    obtain ⟨tv, rfl⟩ := intItems_at hP'
    have c0 := l2 0 (by omega)
    have c1 := l2 1 (by omega)
    have c2 := l2 2 (by omega)
    have c3 := l2 3 (by omega)
    refine h _ tv h' tk ?_ ?_ old
    · have : i = 0 ∨ i = 1 ∨ i = 2 ∨ i = 3 := by omega
      rcases this with rfl | rfl | rfl | rfl <;> simp [numAt]
    · intro z hz
      simp only [List.mem_cons, List.not_mem_nil, or_false] at hz
      rcases hz with rfl | rfl | rfl | rfl
      · exact c0
      · exact c1
      · exact c2
      · exact c3
end
theorem call_min4 {X : Cx} (hc : X.calm = true) : CallR X (.builtin "min") (fun xs H Q => ∃ a b c d, xs = [.int a, .int b, .int c, .int d] ∧ ∀ m, m ∈ [a, b, c, d] → (∀ z ∈ [a, b, c, d], m ≤ z) → Q (.int m) H) := by
  intro pins s σ H xs us Q I r h
  obtain ⟨a, b, c, d, rfl, q⟩ := h
  cases r with
  | cons r1 r => cases r with
    | cons r2 r => cases r with
      | cons r3 r => cases r with
        | cons r4 r =>
          cases r
          obtain ⟨t1, rfl⟩ := r1
          obtain ⟨t2, rfl⟩ := r2
          obtain ⟨t3, rfl⟩ := r3
          obtain ⟨t4, rfl⟩ := r4
          exact min_four_ints (I.ok.hd hc) fun m tm h' tk hm hl k => ⟨.int m, H, I.kept k, ⟨_, rfl⟩, q m hm hl⟩
end G

namespace G
open PySem PySem.Spec PyProof.Rows L2
variable [tb : Tb]

def Cont (K : PySem.W.Frag) (μ : PM) (H : Hp) (P : Post) (Q : VK) : Prop := ∀ v μ' w H', Res K H μ' H' v w → RepH K H' μ' → Ext μ H μ' H' → P v μ' → Q w H'
def XCont (K : PySem.W.Frag) (W : WX) (σ : St) (μ : PM) (H : Hp) (X : XPost) : Prop := ∀ x μ' cls d H', RepX K H' x cls d → RepH K H' μ' → Ext μ H μ' H' → X x μ' → W cls d σ H'
def T (K : PySem.W.Frag) (W : WX) (wp : PE_ → PM → Post → XPost → Prop) : TE := fun σ H Q => ∃ ρ μ P X, RepE K H ρ σ ∧ RepH K H μ ∧ wp ρ μ P X ∧ Cont K μ H P Q ∧ XCont K W σ μ H X

section
variable {K : PySem.W.Frag} {W : WX} {σ : St} {μ μ1 : PM} {H H1 : Hp} {P : Post} {Q : VK} {X : XPost}
theorem Cont.pre (c : Cont K μ H P Q) (e : Ext μ H μ1 H1) : Cont K μ1 H1 P Q := fun v μ' w H' r m e' p => c v μ' w H' (r.back e.dom) m (e.trans e') p
theorem XCont.pre (c : XCont K W σ μ H X) (e : Ext μ H μ1 H1) : XCont K W σ μ1 H1 X := fun x μ' cls d H' r m e' p => c x μ' cls d H' r m (e.trans e') p
theorem Cont.here (c : Cont K μ H P Q) (m : RepH K H μ) {v : PV} {w : V} (r : RepV K H v w) (p : P v μ) : Q w H := c v μ w H (Res.of r) m Ext.refl p
theorem Cont.int (c : Cont K μ H P Q) (m : RepH K H μ) {i : Int} (p : P (.int i) μ) : Q (.int i) H := c.here (v := .int i) m rfl p
theorem Cont.bl (c : Cont K μ H P Q) (m : RepH K H μ) {i : Bool} (p : P (.bl i) μ) : Q (.bl i) H := c.here (v := .bl i) m rfl p
theorem Cont.hid (c : Cont K μ H P Q) (m : RepH K H μ) {v : PV} {p : Addr} {h : HO} (n : H p = none) (r : RepV K (upd H p h) v (.ref p)) (q : P v μ) : Q (.ref p) (upd H p h) :=
  c v μ _ _ (Res.of r) (m.hid n) (Ext.hid n) q
theorem Cont.tup (c : Cont K μ H P Q) (m : RepH K H μ) {xs : List PV} {vs : List V} {p : Addr} (n : H p = none) (r : RepVs K H xs vs) (z : xs.length ≤ sizeLine) (q : P (.tup xs) μ) : Q (.ref p) (upd H p (.tup vs)) :=
  c.hid (v := .tup xs) m n ⟨p, vs, rfl, SqT.of upd_same, z, r.mono (TupLe.upd_new n)⟩ q
theorem Cont.tmp (c : Cont K μ H P Q) (m : RepH K H μ) {xs : List PV} {vs : List V} {p : Addr} (n : H p = none) (r : RepVs K H xs vs) (z : xs.length ≤ sizeLine) (q : P (.tmp xs) μ) : Q (.ref p) (upd H p (.lst vs)) :=
  c (.tmp xs) μ _ _ ⟨p, vs, rfl, n, upd_same, m.none n, z, r.mono (TupLe.upd_new n)⟩ (m.hid n) (Ext.hid n) q

theorem _root_.L2.PE.imp {X : Cx} {e : Expr} {t t' : TE} (p : PE X e t) (h : ∀ σ H Q, t' σ H Q → t σ H Q) : PE X e t' := ⟨fun pins s σ H Q I q => p.run pins s σ H Q I (h σ H Q q)⟩
theorem _root_.L2.PT.imp {X : Cx} {e : Expr} {t t' : TT} (p : PT X e t) (h : ∀ σ H Q, t' σ H Q → t σ H Q) : PT X e t' := ⟨fun pins s σ H Q I q => p.run pins s σ H Q I (h σ H Q q)⟩
theorem _root_.L2.PA.imp {X : Cx} {e : List Expr} {t t' : TA} (p : PA X e t) (h : ∀ σ H Q, t' σ H Q → t σ H Q) : PA X e t' := ⟨fun pos pins s σ H Q I q => p.run pos pins s σ H Q I (h σ H Q q)⟩
theorem _root_.L2.PS.imp {X : Cx} {e : Stmt} {t t' : TS} (p : PS X e t) (h : ∀ D σ H, t' D σ H → t D σ H) : PS X e t' := ⟨fun pins s σ H D I q => p.run pins s σ H D I (h D σ H q)⟩
theorem _root_.L2.PSs.imp {X : Cx} {e : List Stmt} {t t' : TS} (p : PSs X e t) (h : ∀ D σ H, t' D σ H → t D σ H) : PSs X e t' := ⟨fun pins s σ H D I q => p.run pins s σ H D I (h D σ H q)⟩

/-- evaluating on: the value's place in the chain -/
theorem T.go {wp : PE_ → PM → Post → XPost → Prop} {ρ : PE_} (hρ : RepE K H ρ σ) (m : RepH K H μ) (h : wp ρ μ P X) (cx : XCont K W σ μ H X)
    (c : ∀ v μ' w H', Res K H μ' H' v w → RepH K H' μ' → Ext μ H μ' H' → RepE K H' ρ σ → XCont K W σ μ' H' X → P v μ' → Q w H') : T K W wp σ H Q :=
  ⟨ρ, μ, P, X, hρ, m, h, fun v μ' w H' r m' e p => c v μ' w H' r m' e (hρ.mono (e.tup m)) (cx.pre e) p, cx⟩

theorem seq_res {H0 : Hp} {v : PV} {w : V} {xs : List PV} (m : RepH K H μ) (r : Res K H0 μ H v w) (e : seqOf μ v = some xs) :
    ∃ a vs, w = .ref a ∧ (SqL K H a vs ∨ SqT K H a vs) ∧ RepVs K H xs vs ∧ xs.length ≤ sizeLine := by
  cases v with
  | tup ys =>
    cases e
    obtain ⟨a, vs, h1, h2, h3, h4⟩ := r
    exact ⟨a, vs, h1, .inr h2, h4, h3⟩
  | tmp ys =>
    cases e
    obtain ⟨a, vs, h1, _, h2, _, h3, h4⟩ := r
    exact ⟨a, vs, h1, .inl (SqL.of h2), h4, h3⟩
  | kl ys =>
    cases e
    obtain ⟨a, vs, h1, h2, h3, h4⟩ := r
    exact ⟨a, vs, h1, .inl (.inr h2), h4, h3⟩
  | ref a =>
    have hw : w = .ref a := r
    cases q : μ a with
    | none => simp [seqOf, q] at e
    | some o =>
      obtain ⟨h, e1, e2⟩ := m a o q
      cases o with
      | lst ys =>
        simp [seqOf, q] at e; subst e
        obtain ⟨vs, rfl, z, r2⟩ := e2
        exact ⟨a, vs, hw, .inl (SqL.of e1), r2, z⟩
      | frz ys =>
        simp [seqOf, q] at e; subst e
        obtain ⟨o, vs, rfl, z, r2⟩ := e2
        exact ⟨a, vs, hw, .inl (.inl (.inr ⟨o, e1⟩)), r2, z⟩
      | dk _ => simp [seqOf, q] at e
      | dt _ => simp [seqOf, q] at e
      | ins _ _ => simp [seqOf, q] at e
  | non => cases e
  | bl _ => cases e
  | int _ => cases e
  | str _ => cases e
  | ty _ => cases e
theorem lst_res {H0 : Hp} {v : PV} {w : V} {xs : List PV} (m : RepH K H μ) (r : Res K H0 μ H v w) (e : lstOf μ v = some xs) :
    ∃ a vs, w = .ref a ∧ H a = some (.lst vs) ∧ RepVs K H xs vs ∧ xs.length ≤ sizeLine := by
  cases v with
  | tmp ys =>
    cases e
    obtain ⟨a, vs, h1, _, h2, _, h3, h4⟩ := r
    exact ⟨a, vs, h1, h2, h4, h3⟩
  | ref a =>
    have hw : w = .ref a := r
    cases q : μ a with
    | none => simp [lstOf, q] at e
    | some o =>
      obtain ⟨h, e1, e2⟩ := m a o q
      cases o with
      | lst ys =>
        simp [lstOf, q] at e; subst e
        obtain ⟨vs, rfl, z, r2⟩ := e2
        exact ⟨a, vs, hw, e1, r2, z⟩
      | frz ys => simp [lstOf, q] at e
      | dk _ => simp [lstOf, q] at e
      | dt _ => simp [lstOf, q] at e
      | ins _ _ => simp [lstOf, q] at e
  | tup _ => cases e
  | non => cases e
  | bl _ => cases e
  | int _ => cases e
  | str _ => cases e
  | ty _ => cases e
  | kl _ => cases e
theorem mat_rep {H0 : Hp} {v : PV} {w : V} {R : Prop} (m : RepH K H μ) (r : Res K H0 μ H v w) (d : ∀ a, H a = none → H0 a = none) (p : mat v μ P)
    (c : ∀ v' μ', RepV K H v' w → RepH K H μ' → (∀ μ0, Ext μ0 H0 μ H → Ext μ0 H0 μ' H) → P v' μ' → R) : R := by
  have plain : RepV K H v w → P v μ → R := fun r p => c v μ r m (fun _ e => e) p
  cases v with
  | tmp xs =>
    obtain ⟨a, vs, rfl, n, h, hm, z, r2⟩ := r
    refine c (.ref a) (up μ a (.lst xs)) rfl ⟨fun b o e => ?_, m.tb⟩ (fun μ0 e => ⟨e.keep, e.dom, fun b nb hb => ?_⟩) (p a hm)
    · by_cases q : b = a
      · subst q; rw [up_same] at e; cases e
        exact ⟨_, h, vs, rfl, z, r2⟩
      · rw [up_ne q] at e; exact m b o e
    · rw [up_ne (fun q => by subst q; exact hb n)]
      exact e.new b nb hb
  | non => exact plain r p
  | bl _ => exact plain r p
  | int _ => exact plain r p
  | str _ => exact plain r p
  | tup _ => exact plain r p
  | ref _ => exact plain r p
  | ty _ => exact plain r p
  | kl _ => exact plain r p
end

section
variable {X : Cx} {k : Nat}
theorem MulOk.ok {i j : Int} (h : MulOk i j) : IntMulOk i j := by
  have b : ∀ x : Int, Builtin.Int.intBits x ≤ x.natAbs.log2 + 1 := fun x => by
    unfold Builtin.Int.intBits
    split <;> omega
  have h1 := b i
  have h2 := b j
  have h3 : i.natAbs.log2 + j.natAbs.log2 < 100000000 := h
  have e : bitsLine = 134217728 := by decide
  unfold IntMulOk
  intro z
  rw [Bool.and_eq_true] at z
  have z2 := z.2
  unfold Builtin.Int.intTooBig at z2
  have z3 := of_decide_eq_true z2
  rw [e] at z3
  omega
theorem op_mulB : OpR X (binaryOp .Mult) (rI MulOk fun i j => .int (i * j)) := opI fun _ _ _ _ _ _ _ hc q => mul_int q hc.ok
theorem op_fdivB : OpR X (binaryOp .FloorDiv) (rI (fun i j => 0 < j ∧ Builtin.divisionGoesByPylong i j = false) fun i j => .int (i / j)) := opI fun i j _ _ _ _ _ hc q =>
  floordiv_int (by have := hc.1; omega) (by rw [Int.fdiv_eq_ediv_of_nonneg i (by have := hc.1; omega)]; exact q) (.inl hc.2)

/-- an operator's rule by the small language's own word -/
def OpG (X : Cx) (f : Value → Value → Sem Value) (g : PV → PV → PM → Post → Prop) : Prop :=
  ∃ r, OpR X f r ∧ ∀ (H0 : Hp) (μ : PM) (H : Hp) (x y : PV) (w u : V) (P : Post) (Q : VK), RepH X.K H μ → Res X.K H0 μ H x w → Res X.K H0 μ H y u → Cont X.K μ H P Q → g x y μ P → r w u H Q
section
variable {H0 : Hp} {μ : PM} {H : Hp} {w : V}
theorem res_int {i : Int} (h : Res X.K H0 μ H (.int i) w) : w = .int i := h
theorem res_str {i : Str} (h : Res X.K H0 μ H (.str i) w) : w = .str i ∧ i.length ≤ sizeLine := h
theorem res_bl {i : Bool} (h : Res X.K H0 μ H (.bl i) w) : w = .bl i := h
theorem res_non (h : Res X.K H0 μ H .non w) : w = .non := h
theorem res_ref {a : Addr} (h : Res X.K H0 μ H (.ref a) w) : w = .ref a := h
theorem res_tup {xs : List PV} (h : Res X.K H0 μ H (.tup xs) w) : ∃ a vs, w = .ref a ∧ SqT X.K H a vs ∧ xs.length ≤ sizeLine ∧ RepVs X.K H xs vs := h
end
theorem lenStr (a b : Str) : (a ++ b).length = a.length + b.length := by
  show (Array.append _ _).size = _
  simp [Str.length]
theorem rep_cat {α : Type} (n : Nat) (xs : List α) : (List.replicate n xs).flatten.length = xs.length * n := by
  induction n with
  | zero => simp
  | succ n ih => simp [List.replicate_succ, ih, Nat.mul_succ]; omega
theorem RepVs.rep {K : PySem.W.Frag} {H : Hp} {xs : List PV} {vs : List V} (r : RepVs K H xs vs) (n : Nat) : RepVs K H (List.replicate n xs).flatten (List.replicate n vs).flatten := by
  induction n with
  | zero => exact RepVs.nil
  | succ n ih => rw [List.replicate_succ, List.replicate_succ, List.flatten_cons, List.flatten_cons]; exact r.append ih

def pyOp : Op → Operator
  | .add => .Add | .sub => .Sub | .mul => .Mult | .fdiv => .FloorDiv | .mod => .Mod | .pow => .Pow

theorem g_add : OpG X (binaryOp .Add) (binW .add) := by
  refine ⟨_, op_add.or (op_add_str.or (op_catA.or op_cat)), fun H0 μ H x y w u P Q m rx ry c h => ?_⟩
  have lists : (∃ a b, lstOf μ x = some a ∧ lstOf μ y = some b ∧ a.length + b.length ≤ sizeLine ∧ P (.tmp (a ++ b)) μ) → rCat w u H Q := fun ⟨a, b, e1, e2, z, p⟩ => by
    obtain ⟨l1, v1, rfl, h1, r1, _⟩ := lst_res m rx e1
    obtain ⟨l2, v2, rfl, h2, r2, _⟩ := lst_res m ry e2
    refine ⟨l1, l2, v1, v2, rfl, rfl, h1, h2, by rw [← r1.length, ← r2.length]; exact z, fun p' n => ?_⟩
    exact c.tmp m n (r1.append r2) (by rw [List.length_append]; exact z) p
  cases x with
  | int i =>
    cases y with
    | int j => exact .inl ⟨i, j, res_int rx, res_int ry, c.int m h⟩
    | _ => exact .inr (.inr (.inr (lists h)))
  | str i =>
    cases y with
    | str j =>
      obtain ⟨rfl, _⟩ := res_str rx
      obtain ⟨rfl, _⟩ := res_str ry
      exact .inr (.inl ⟨i, j, rfl, rfl, h.1, c.here (v := .str (i ++ j)) m ⟨rfl, by rw [lenStr]; exact h.1⟩ h.2⟩)
    | _ => exact .inr (.inr (.inr (lists h)))
  | tup a =>
    cases y with
    | tup b =>
      obtain ⟨l1, v1, rfl, s1, z1, r1⟩ := res_tup rx
      obtain ⟨l2, v2, rfl, s2, z2, r2⟩ := res_tup ry
      obtain ⟨z, p⟩ := h
      refine .inr (.inr (.inl ⟨l1, l2, v1, v2, rfl, rfl, s1, s2, by rw [← r1.length, ← r2.length]; exact z, fun e => ?_, fun _ e => ?_, fun _ _ q n => ?_⟩))
      · subst e
        have e2 : a = [] := List.length_eq_zero_iff.mp (by rw [r1.length]; rfl)
        subst e2
        exact c.here (v := .tup b) m ⟨l2, v2, rfl, s2, z2, r2⟩ p
      · subst e
        have e2 : b = [] := List.length_eq_zero_iff.mp (by rw [r2.length]; rfl)
        subst e2
        rw [List.append_nil] at p
        exact c.here (v := .tup a) m ⟨l1, v1, rfl, s1, z1, r1⟩ p
      · exact c.tup m n (r1.append r2) (by rw [List.length_append]; exact z) p
    | _ => exact .inr (.inr (.inr (lists h)))
  | non => exact .inr (.inr (.inr (lists h)))
  | bl _ => exact .inr (.inr (.inr (lists h)))
  | ref _ => exact .inr (.inr (.inr (lists h)))
  | ty _ => exact .inr (.inr (.inr (lists h)))
  | tmp _ => exact .inr (.inr (.inr (lists h)))
  | kl _ => exact .inr (.inr (.inr (lists h)))
theorem g_sub : OpG X (binaryOp .Sub) (binW .sub) := by
  refine ⟨_, op_sub, fun H0 μ H x y w u P Q m rx ry c h => ?_⟩
  cases x with
  | int i =>
    cases y with
    | int j => exact ⟨i, j, res_int rx, res_int ry, c.int m h⟩
    | _ => exact h.elim
  | _ => exact h.elim
theorem g_mod : OpG X (binaryOp .Mod) (binW .mod) := by
  refine ⟨_, op_mod, fun H0 μ H x y w u P Q m rx ry c h => ?_⟩
  cases x with
  | int i =>
    cases y with
    | int j => exact ⟨i, j, res_int rx, res_int ry, h.1, c.int m h.2⟩
    | _ => exact h.elim
  | _ => exact h.elim
theorem g_fdiv : OpG X (binaryOp .FloorDiv) (binW .fdiv) := by
  refine ⟨_, op_fdivB, fun H0 μ H x y w u P Q m rx ry c h => ?_⟩
  cases x with
  | int i =>
    cases y with
    | int j => exact ⟨i, j, res_int rx, res_int ry, ⟨h.1, h.2.1⟩, c.int m h.2.2⟩
    | _ => exact h.elim
  | _ => exact h.elim
theorem g_pow : OpG X (binaryOp .Pow) (binW .pow) := by
  refine ⟨_, op_pow, fun H0 μ H x y w u P Q m rx ry c h => ?_⟩
  cases x with
  | int i =>
    cases y with
    | int j => exact ⟨i, j, res_int rx, res_int ry, h.1, c.int m h.2⟩
    | _ => exact h.elim
  | _ => exact h.elim
/-- a tuple, once: itself -/
theorem once_tup (l : Addr) (its : Array Value) (n : Nat) (dd : Option Addr) (sl : Array (Option Value)) (u : Tok) (hne : its.isEmpty = false) :
    Meets (Builtin.«tuple.__mul__» ⟨[.ref l, .int 1 u], []⟩) (fun _ R s => s.heap.get? l = some { cls := .type "tuple", dict := dd, data := .seq its n, slots := sl } ∧ R (.ok (.ret (.ref l))) s) :=
  .of_wp fun prog w A R s h => by
    obtain ⟨hp, g, d, tk, os⟩ := s; obtain ⟨hl, h⟩ := h; have f1 := AutoSeq1.idx_int
    wp_walk using wpAny_loadPart' hl
    exact ⟨_, rfl, h⟩
theorem op_once : OpR X (binaryOp .Mult) (fun x y H Q => ∃ l xs, x = .ref l ∧ y = .int 1 ∧ SqT X.K H l xs ∧ xs ≠ [] ∧ Q (.ref l) H) := fun pins s σ H x y v u Q I rx ry h => by
  obtain ⟨l, xs, rfl, rfl, hT, hne, q⟩ := h
  cases rx; obtain ⟨t, rfl⟩ := ry
  obtain ⟨its, r, ⟨⟨cls, dd, data, sl⟩, ho, hc, n, hd⟩, hs⟩ := I.tuple hT; simp only at hc hd; subst hc hd
  have hi : its.toArray.isEmpty = false := by
    cases its with
    | nil => exact absurd (List.eq_nil_of_length_eq_zero r.length) hne
    | cons a b => rfl
  exact wpAny_binaryOp_repeat_ref (T := "tuple") (U := "int") (by decide) ⟨_, ho, rfl⟩ (fun s' => typeIs_int s' 1 t) noFill_tuple_mul PySem.F.fills_int_mul PySem.F.slot_int_rmul repeat_tuple PySem.F.slot_int_index.lookup (call_meets PySem.F.slot_int_rmul (typeIs_int s 1 t) PySem.F.entry_int_rmul (PySem.F.args_int_rmul_2 _ _) (int_rmul_tuple 1 t l its.toArray n dd sl) ⟨ho, rfl, ⟨_, ho, rfl⟩, call_meets PySem.F.slot_tuple_mul ⟨_, ho, rfl⟩ PySem.F.entry_tuple_mul (PySem.F.args_tuple_mul_2 _ _) (once_tup l its.toArray n dd sl t hi) ⟨ho, .ref l, H, I, rfl, q⟩⟩)
theorem g_mul : OpG X (binaryOp .Mult) (binW .mul) := by
  refine ⟨_, op_mulB.or (op_repT.or (op_rep.or op_once)), fun H0 μ H x y w u P Q m rx ry c h => ?_⟩
  have lists : ∀ k, u = .int k → (∃ a, lstOf μ x = some a ∧ -(2 ^ 63) ≤ k ∧ k < 2 ^ 63 ∧ a.length * k.toNat ≤ sizeLine ∧ P (.tmp (List.replicate k.toNat a).flatten) μ) → rRep w u H Q := fun k hu ⟨a, e1, k1, k2, z, p⟩ => by
    obtain ⟨l1, v1, rfl, h1, r1, _⟩ := lst_res m rx e1
    refine ⟨l1, k, v1, rfl, hu, h1, k1, k2, by rw [← r1.length]; exact z, fun p' n => ?_⟩
    exact c.tmp m n (r1.rep _) (by rw [rep_cat]; exact z) p
  cases y with
  | int k =>
    cases x with
    | int i => exact .inl ⟨i, k, res_int rx, res_int ry, h.1, c.int m h.2⟩
    | tup a =>
      obtain ⟨l1, v1, rfl, s1, z1, r1⟩ := res_tup rx
      obtain ⟨na, k1, k2, z, p⟩ := h
      have hx : v1 ≠ [] := fun e => na (List.length_eq_zero_iff.mp (by rw [r1.length, e]; rfl))
      by_cases one : k = 1
      · subst one
        refine .inr (.inr (.inr ⟨l1, v1, rfl, res_int ry, s1, hx, c.here (v := .tup a) m ⟨l1, v1, rfl, s1, z1, r1⟩ ?_⟩))
        simpa using p
      have k1 : 2 ≤ k := by omega
      refine .inr (.inl ⟨l1, k, v1, rfl, res_int ry, s1, fun e => na (List.length_eq_zero_iff.mp (by rw [r1.length, e]; rfl)), k1, k2, by rw [← r1.length]; exact z, fun q n => ?_⟩)
      refine c.tup m n (r1.rep _) ?_ p
      rw [rep_cat]
      have h1 : a.length * k.toNat ≤ 1000 * 1000 := Nat.mul_le_mul z (by omega)
      exact Nat.le_trans h1 (by rw [sizeLine_eq]; decide)
    | tmp _ => exact .inr (.inr (.inl (lists k (res_int ry) h)))
    | ref _ => exact .inr (.inr (.inl (lists k (res_int ry) h)))
    | non => exact .inr (.inr (.inl (lists k (res_int ry) h)))
    | bl _ => exact .inr (.inr (.inl (lists k (res_int ry) h)))
    | str _ => exact .inr (.inr (.inl (lists k (res_int ry) h)))
    | ty _ => exact .inr (.inr (.inl (lists k (res_int ry) h)))
    | kl _ => exact .inr (.inr (.inl (lists k (res_int ry) h)))
  | _ => cases x <;> exact h.elim
theorem g_op (op : Op) : OpG X (binaryOp (pyOp op)) (binW op) := by
  cases op
  · exact g_add
  · exact g_sub
  · exact g_mul
  · exact g_fdiv
  · exact g_mod
  · exact g_pow

mutual
theorem dp_of {K : PySem.W.Frag} {H : Hp} {μ : PM} : ∀ (x : PV) (w : V) (d : PyData), RepV K H x w → toD μ x = some d → Dp K H w d
  | .non, w, d, r, e => by cases (show w = .non from r); cases e; exact .non
  | .bl b, w, d, r, e => by cases (show w = .bl b from r); cases e; exact .bl b
  | .int i, w, d, r, e => by cases (show w = .int i from r); cases e; exact .int i
  | .str x, w, d, r, e => by obtain ⟨rfl, _⟩ := (show w = .str x ∧ _ from r); cases e; exact .str x
  | .tup xs, w, d, r, e => by
    obtain ⟨a, vs, rfl, s, _, r2⟩ := r
    unfold toD at e
    cases q : toDs μ xs with
    | none => rw [q] at e; cases e
    | some ds =>
      rw [q] at e; cases e
      exact .tup s (dps_of xs vs ds r2 q)
  | .ref _, _, _, _, e => nomatch e
  | .ty _, _, _, _, e => nomatch e
  | .tmp _, _, _, _, e => nomatch e
  | .kl _, _, _, _, e => nomatch e
theorem dps_of {K : PySem.W.Frag} {H : Hp} {μ : PM} : ∀ (xs : List PV) (ws : List V) (ds : List PyData), RepVs K H xs ws → toDs μ xs = some ds → DpAll K H ws ds
  | [], ws, ds, r, e => by cases (show ws = [] from r); cases e; exact .nil
  | x :: xs, ws, ds, r, e => by
    obtain ⟨v, vs, rfl, r1, r2⟩ := r
    unfold toDs at e
    cases q : toD μ x with
    | none => rw [q] at e; cases e
    | some d =>
      cases q2 : toDs μ xs with
      | none => rw [q, q2] at e; cases e
      | some es =>
        rw [q, q2] at e; cases e
        exact .cons (dp_of x v d r1 q) (dps_of xs vs es r2 q2)
end
theorem dpl_of {K : PySem.W.Frag} {H H0 : Hp} {μ : PM} {x : PV} {w : V} {d : PyData} (m : RepH K H μ) (r : Res K H0 μ H x w) (e : toDl μ x = some d) : Dp K H w d := by
  unfold toDl at e
  cases q : toD μ x with
  | some d2 =>
    rw [q] at e; cases e
    refine dp_of (μ := μ) x w _ ?_ q
    cases x <;> first | exact r | cases q
  | none =>
    rw [q] at e
    cases q2 : lstOf μ x with
    | none => rw [q2] at e; cases e
    | some xs =>
      rw [q2] at e
      obtain ⟨a, vs, rfl, h, r2, _⟩ := lst_res m r q2
      cases q3 : toDs μ xs with
      | none => simp [q3] at e
      | some ds =>
        simp [q3] at e; subst e
        exact .lst (SqL.of h) (dps_of xs vs ds r2 q3)

def pyCop : Cop → CmpOp
  | .eq => .Eq | .ne => .NotEq | .lt => .Lt | .le => .LtE | .gt => .Gt | .ge => .GtE | .is => .Is | .isn => .IsNot | .isin => .In | .nin => .NotIn

theorem decI {i j : Int} : decide (V.int i = V.int j) = decide (i = j) := by simp
theorem decS {i j : Str} : decide (V.str i = V.str j) = decide (i = j) := by simp
theorem decB {i j : Bool} : decide (V.bl i = V.bl j) = (i == j) := dec_bl
theorem g_lt : OpG X (compareOp .Lt) (cmpW .lt) := by
  refine ⟨_, op_lt, fun H0 μ H x y w u P Q m rx ry c h => ?_⟩
  cases x <;> try exact h.elim
  cases y <;> try exact h.elim
  exact ⟨_, _, res_int rx, res_int ry, c.bl m h⟩
theorem g_le : OpG X (compareOp .LtE) (cmpW .le) := by
  refine ⟨_, op_le, fun H0 μ H x y w u P Q m rx ry c h => ?_⟩
  cases x <;> try exact h.elim
  cases y <;> try exact h.elim
  exact ⟨_, _, res_int rx, res_int ry, c.bl m h⟩
theorem g_gt : OpG X (compareOp .Gt) (cmpW .gt) := by
  refine ⟨_, op_gt, fun H0 μ H x y w u P Q m rx ry c h => ?_⟩
  cases x <;> try exact h.elim
  cases y <;> try exact h.elim
  exact ⟨_, _, res_int rx, res_int ry, c.bl m h⟩
theorem g_ge : OpG X (compareOp .GtE) (cmpW .ge) := by
  refine ⟨_, op_ge, fun H0 μ H x y w u P Q m rx ry c h => ?_⟩
  cases x <;> try exact h.elim
  cases y <;> try exact h.elim
  exact ⟨_, _, res_int rx, res_int ry, c.bl m h⟩
theorem non_dec {K : PySem.W.Frag} {H0 H : Hp} {μ : PM} {x : PV} {w : V} (r : Res K H0 μ H x w) : decide (w = .non) = isNonP x := by
  cases x with
  | non => cases (show w = .non from r); rfl
  | bl _ => cases (show w = .bl _ from r); rfl
  | int _ => cases (show w = .int _ from r); rfl
  | str _ => obtain ⟨rfl, _⟩ := (show w = .str _ ∧ _ from r); rfl
  | tup _ => obtain ⟨a, vs, rfl, _⟩ := r; rfl
  | ref _ => cases (show w = .ref _ from r); rfl
  | ty _ => cases (show w = .ty _ from r); rfl
  | tmp _ => obtain ⟨a, vs, rfl, _⟩ := r; rfl
  | kl _ => obtain ⟨a, vs, rfl, _⟩ := r; rfl
theorem g_is : OpG X (compareOp .Is) (cmpW .is) := by
  refine ⟨_, op_isN.or op_is_bl, fun H0 μ H x y w u P Q m rx ry c h => ?_⟩
  have non : y = .non → P (.bl (isNonP x)) μ → u = .non ∧ Q (.bl (decide (w = .non))) H := fun e p => by
    subst e
    refine ⟨res_non ry, ?_⟩
    rw [non_dec rx]
    exact c.bl m p
  cases y with
  | non => cases x <;> exact .inl (non rfl h)
  | bl b =>
    cases x with
    | bl a =>
      refine .inr ⟨a, b, res_bl rx, res_bl ry, ?_⟩
      have e : decide (a = b) = (a == b) := by cases a <;> cases b <;> rfl
      rw [e]
      exact c.bl m h
    | _ => exact h.elim
  | _ => cases x <;> exact h.elim
theorem g_isn : OpG X (compareOp .IsNot) (cmpW .isn) := by
  refine ⟨_, op_notN.or op_isnot_bl, fun H0 μ H x y w u P Q m rx ry c h => ?_⟩
  have non : y = .non → P (.bl (!isNonP x)) μ → u = .non ∧ Q (.bl (!decide (w = .non))) H := fun e p => by
    subst e
    refine ⟨res_non ry, ?_⟩
    rw [non_dec rx]
    exact c.bl m p
  cases y with
  | non => cases x <;> exact .inl (non rfl h)
  | bl b =>
    cases x with
    | bl a =>
      refine .inr ⟨a, b, res_bl rx, res_bl ry, ?_⟩
      have e : decide (a = b) = (a == b) := by cases a <;> cases b <;> rfl
      rw [e]
      exact c.bl m h
    | _ => exact h.elim
  | _ => cases x <;> exact h.elim
theorem g_eq (hr : X.A.units + 64 < cLine) : OpG X (compareOp .Eq) (cmpW .eq) := by
  refine ⟨_, op_eq.or (op_eqD hr), fun H0 μ H x y w u P Q m rx ry c h => ?_⟩
  have deep : (∃ d e, toDl μ x = some d ∧ toDl μ y = some e ∧ SeqAt.shaped d = true ∧ SeqAt.shaped e = true ∧ P (.bl (PyData.eqv d e)) μ) → rEqD X.K w u H Q := fun ⟨d, e, e1, e2, s1, s2, p⟩ =>
    ⟨d, e, dpl_of m rx e1, dpl_of m ry e2, s1, s2, c.bl m p⟩
  cases x with
  | int i =>
    cases y with
    | int j => rw [res_int rx, res_int ry]; exact .inl ⟨rfl, by rw [decI]; exact c.bl m h⟩
    | _ => exact .inr (deep h)
  | str i =>
    cases y with
    | str j => rw [(res_str rx).1, (res_str ry).1]; exact .inl ⟨rfl, by rw [decS]; exact c.bl m h⟩
    | _ => exact .inr (deep h)
  | bl i =>
    cases y with
    | bl j => rw [res_bl rx, res_bl ry]; exact .inl ⟨rfl, by rw [decB]; exact c.bl m h⟩
    | _ => exact .inr (deep h)
  | _ => exact .inr (deep h)
theorem g_ne (hr : X.A.units + 64 < cLine) : OpG X (compareOp .NotEq) (cmpW .ne) := by
  refine ⟨_, op_ne.or (op_neD hr), fun H0 μ H x y w u P Q m rx ry c h => ?_⟩
  have deep : (∃ d e, toDl μ x = some d ∧ toDl μ y = some e ∧ SeqAt.shaped d = true ∧ SeqAt.shaped e = true ∧ P (.bl (!PyData.eqv d e)) μ) → rNeD X.K w u H Q := fun ⟨d, e, e1, e2, s1, s2, p⟩ =>
    ⟨d, e, dpl_of m rx e1, dpl_of m ry e2, s1, s2, c.bl m p⟩
  cases x with
  | int i =>
    cases y with
    | int j => rw [res_int rx, res_int ry]; exact .inl ⟨rfl, by rw [decI]; exact c.bl m h⟩
    | _ => exact .inr (deep h)
  | str i =>
    cases y with
    | str j => rw [(res_str rx).1, (res_str ry).1]; exact .inl ⟨rfl, by rw [decS]; exact c.bl m h⟩
    | _ => exact .inr (deep h)
  | bl i =>
    cases y with
    | bl j => rw [res_bl rx, res_bl ry]; exact .inl ⟨rfl, by rw [decB]; exact c.bl m h⟩
    | _ => exact .inr (deep h)
  | _ => exact .inr (deep h)

theorem flat_rep {K : PySem.W.Frag} {H : Hp} {x : PV} {w : V} (r : RepV K H x w) (f : flatP x = true) : flatV w = true := by
  cases x with
  | non => cases (show w = .non from r); rfl
  | bl _ => cases (show w = .bl _ from r); rfl
  | int _ => cases (show w = .int _ from r); rfl
  | str _ => obtain ⟨rfl, _⟩ := (show w = .str _ ∧ _ from r); rfl
  | _ => cases f
theorem flats_rep {K : PySem.W.Frag} {H : Hp} : ∀ {xs : List PV} {ws : List V}, RepVs K H xs ws → xs.all flatP = true → ws.all flatV = true
  | [], ws, r, _ => by cases (show ws = [] from r); rfl
  | x :: xs, ws, r, f => by
    obtain ⟨v, vs, rfl, r1, r2⟩ := r
    simp only [List.all_cons, Bool.and_eq_true] at f ⊢
    exact ⟨flat_rep r1 f.1, flats_rep r2 f.2⟩
theorem eq_rep {K : PySem.W.Frag} {H : Hp} {x y : PV} {w u : V} (r : RepV K H x w) (q : RepV K H y u) (f : flatP x = true) (g : flatP y = true) : eqV w u = eqP x y := by
  cases x with
  | non =>
    cases (show w = .non from r)
    cases y with
    | non => cases (show u = .non from q); rfl
    | bl _ => cases (show u = .bl _ from q); rfl
    | int _ => cases (show u = .int _ from q); rfl
    | str _ => obtain ⟨rfl, _⟩ := (show u = .str _ ∧ _ from q); rfl
    | _ => cases g
  | bl _ =>
    cases (show w = .bl _ from r)
    cases y with
    | non => cases (show u = .non from q); rfl
    | bl _ => cases (show u = .bl _ from q); rfl
    | int _ => cases (show u = .int _ from q); rfl
    | str _ => obtain ⟨rfl, _⟩ := (show u = .str _ ∧ _ from q); rfl
    | _ => cases g
  | int _ =>
    cases (show w = .int _ from r)
    cases y with
    | non => cases (show u = .non from q); rfl
    | bl _ => cases (show u = .bl _ from q); rfl
    | int _ => cases (show u = .int _ from q); rfl
    | str _ => obtain ⟨rfl, _⟩ := (show u = .str _ ∧ _ from q); rfl
    | _ => cases g
  | str _ =>
    obtain ⟨rfl, _⟩ := (show w = .str _ ∧ _ from r)
    cases y with
    | non => cases (show u = .non from q); rfl
    | bl _ => cases (show u = .bl _ from q); rfl
    | int _ => cases (show u = .int _ from q); rfl
    | str _ => obtain ⟨rfl, _⟩ := (show u = .str _ ∧ _ from q); rfl
    | _ => cases g
  | _ => cases f
theorem any_rep {K : PySem.W.Frag} {H : Hp} {x : PV} {w : V} (r : RepV K H x w) (f : flatP x = true) : ∀ {ys : List PV} {us : List V}, RepVs K H ys us → ys.all flatP = true → inV w us = ys.any fun z => eqP z x
  | [], us, q, _ => by cases (show us = [] from q); rfl
  | y :: ys, us, q, g => by
    obtain ⟨v, vs, rfl, r1, r2⟩ := q
    simp only [List.all_cons, Bool.and_eq_true] at g
    have ih := any_rep r f r2 g.2
    unfold inV at ih ⊢
    simp only [List.any_cons, ih, eq_rep r1 r g.1 f]
theorem sgn_eq {c : Str} {k : Nat} (h : sgn1 c = some k) : c = ⟨#[k]⟩ := by
  unfold sgn1 at h
  split at h
  · rename_i c' e
    cases h
    cases c with
    | mk a =>
      have e2 : a.toList = [k] := e
      have e3 : a = #[k] := by rw [← Array.toArray_toList (xs := a), e2]
      rw [e3]
  · cases h
theorem flat_res {K : PySem.W.Frag} {H0 H : Hp} {μ : PM} {x : PV} {w : V} (r : Res K H0 μ H x w) (f : flatP x = true) : RepV K H x w := by
  cases x <;> first | exact r | cases f
theorem g_in : OpG X (compareOp .In) (cmpW .isin) := by
  refine ⟨_, op_in_sign.or op_in_seq, fun H0 μ H x y w u P Q m rx ry c h => ?_⟩
  have seq : (∃ ys, seqOf μ y = some ys ∧ flatP x = true ∧ ys.all flatP = true ∧ P (.bl (ys.any fun z => eqP z x)) μ) → rIn X.K false w u H Q := fun ⟨ys, e, f, g, p⟩ => by
    obtain ⟨a, vs, rfl, hs, r, _⟩ := seq_res m ry e
    have rx' := flat_res rx f
    refine ⟨a, vs, rfl, hs, flat_rep rx' f, flats_rep r g, ?_⟩
    show Q (.bl (inV w vs)) H
    rw [any_rep rx' f r g]
    exact c.bl m p
  cases x with
  | str i =>
    cases y with
    | str j =>
      obtain ⟨k, hk, p⟩ := h
      have := sgn_eq hk
      subst this
      obtain ⟨rfl, _⟩ := res_str rx
      obtain ⟨rfl, _⟩ := res_str ry
      exact .inl ⟨k, j, rfl, rfl, c.bl m p⟩
    | _ => exact .inr (seq h)
  | _ => exact .inr (seq h)
theorem g_nin : OpG X (compareOp .NotIn) (cmpW .nin) := by
  refine ⟨_, op_notIn_sign.or op_notIn_seq, fun H0 μ H x y w u P Q m rx ry c h => ?_⟩
  have seq : (∃ ys, seqOf μ y = some ys ∧ flatP x = true ∧ ys.all flatP = true ∧ P (.bl (!ys.any fun z => eqP z x)) μ) → rIn X.K true w u H Q := fun ⟨ys, e, f, g, p⟩ => by
    obtain ⟨a, vs, rfl, hs, r, _⟩ := seq_res m ry e
    have rx' := flat_res rx f
    refine ⟨a, vs, rfl, hs, flat_rep rx' f, flats_rep r g, ?_⟩
    show Q (.bl (!inV w vs)) H
    rw [any_rep rx' f r g]
    exact c.bl m p
  cases x with
  | str i =>
    cases y with
    | str j =>
      obtain ⟨k, hk, p⟩ := h
      have := sgn_eq hk
      subst this
      obtain ⟨rfl, _⟩ := res_str rx
      obtain ⟨rfl, _⟩ := res_str ry
      exact .inl ⟨k, j, rfl, rfl, c.bl m p⟩
    | _ => exact .inr (seq h)
  | _ => exact .inr (seq h)
theorem g_cop (hr : X.A.units + 64 < cLine) (op : Cop) : OpG X (compareOp (pyCop op)) (cmpW op) := by
  cases op
  · exact g_eq hr
  · exact g_ne hr
  · exact g_lt
  · exact g_le
  · exact g_gt
  · exact g_ge
  · exact g_is
  · exact g_isn
  · exact g_in
  · exact g_nin

def Ress (K : PySem.W.Frag) (H0 : Hp) (μ : PM) (H : Hp) : List PV → List V → Prop
  | [], ws => ws = []
  | x :: xs, ws => ∃ w r, ws = w :: r ∧ Res K H0 μ H x w ∧ Ress K H0 μ H xs r
theorem Ress.ext {K : PySem.W.Frag} {H0 H1 H2 : Hp} {μ1 μ2 : PM} (m : RepH K H1 μ1) (e : Ext μ1 H1 μ2 H2) : ∀ {xs : List PV} {ws : List V}, Ress K H0 μ1 H1 xs ws → Ress K H0 μ2 H2 xs ws
  | [], _, h => h
  | x :: xs, _, h => by
    obtain ⟨w, r, rfl, h1, h2⟩ := h
    exact ⟨w, r, rfl, h1.ext m e, Ress.ext m e h2⟩
def bfV : Bf → Value
  | .len => .builtin "len" | .abs => .builtin "abs" | .int => .type "int" | .str => .type "str" | .list => .type "list" | .tuple => .type "tuple"
  | .sum => .builtin "sum" | .max => .builtin "max" | .min => .builtin "min" | .all => .builtin "all" | .any => .builtin "any" | .sorted => .builtin "sorted"
  | .setl => .builtin "len" | .repr => .builtin "repr" | .dictp => .type "dict" | .range => .type "range"
theorem ints_rep {K : PySem.W.Frag} {H : Hp} : ∀ {xs : List PV} {ws : List V} {ns : List Int}, RepVs K H xs ws → allOf intOf xs = some ns → ws = ns.map V.int
  | [], ws, ns, r, e => by cases (show ws = [] from r); cases e; rfl
  | x :: xs, ws, ns, r, e => by
    obtain ⟨v, vs, rfl, r1, r2⟩ := r
    unfold allOf at e
    cases x with
    | int i =>
      cases q : allOf intOf xs with
      | none => simp [intOf, q] at e
      | some ms =>
        simp [intOf, q] at e; subst e
        rw [show v = .int i from r1, ints_rep r2 q]; rfl
    | _ => simp [intOf] at e
theorem bls_rep {K : PySem.W.Frag} {H : Hp} : ∀ {xs : List PV} {ws : List V} {ns : List Bool}, RepVs K H xs ws → allOf blOf xs = some ns → ws = ns.map V.bl
  | [], ws, ns, r, e => by cases (show ws = [] from r); cases e; rfl
  | x :: xs, ws, ns, r, e => by
    obtain ⟨v, vs, rfl, r1, r2⟩ := r
    unfold allOf at e
    cases x with
    | bl i =>
      cases q : allOf blOf xs with
      | none => simp [blOf, q] at e
      | some ms =>
        simp [blOf, q] at e; subst e
        rw [show v = .bl i from r1, bls_rep r2 q]; rfl
    | _ => simp [blOf] at e
/-- a built-in's rule by the small language's own word -/
def BfG (X : Cx) (b : Bf) : Prop :=
  ∃ r, CallR X (bfV b) r ∧ ∀ (H0 : Hp) (μ : PM) (H : Hp) (xs : List PV) (ws : List V) (P : Post) (Q : VK), RepH X.K H μ → Ress X.K H0 μ H xs ws → Cont X.K μ H P Q → bfW b xs μ P → r ws H Q
theorem CallR.or {f : Value} {r r' : List V → Hp → VK → Prop} (h : CallR X f r) (h' : CallR X f r') : CallR X f (fun xs H Q => r xs H Q ∨ r' xs H Q) := fun pins s σ H xs us Q I rr q =>
  q.elim (h pins s σ H xs us Q I rr) (h' pins s σ H xs us Q I rr)
theorem callR_never {f : Value} : CallR X f (fun _ _ _ => False) := fun _ _ _ _ _ _ _ _ _ h => h.elim
theorem ress1 {H0 H : Hp} {μ : PM} {x : PV} {ws : List V} (r : Ress X.K H0 μ H [x] ws) : ∃ w, ws = [w] ∧ Res X.K H0 μ H x w := by
  obtain ⟨w, r, rfl, h1, h2⟩ := r
  cases (show r = [] from h2)
  exact ⟨w, rfl, h1⟩
theorem ress2 {H0 H : Hp} {μ : PM} {x y : PV} {ws : List V} (r : Ress X.K H0 μ H [x, y] ws) : ∃ w u, ws = [w, u] ∧ Res X.K H0 μ H x w ∧ Res X.K H0 μ H y u := by
  obtain ⟨w, r, rfl, h1, h2⟩ := r
  obtain ⟨u, rfl, h3⟩ := ress1 h2
  exact ⟨w, u, rfl, h1, h3⟩
theorem bf_len : BfG X .len := by
  refine ⟨_, call_len.or call_lenD, fun H0 μ H xs ws P Q m rr c h => ?_⟩
  match xs, h with
  | [.str z], h =>
    obtain ⟨w, rfl, r⟩ := ress1 rr
    obtain ⟨rfl, hz⟩ := res_str r
    exact .inl ⟨_, _, rfl, ⟨hz, rfl⟩, c.int m h⟩
  | [.ref b], h =>
    obtain ⟨w, rfl, r⟩ := ress1 rr
    rcases h with ⟨xs, e, p⟩ | ⟨a, kvs, e, hm, p⟩
    · obtain ⟨a, vs, rfl, hs, r2, _⟩ := seq_res m r e
      refine .inl ⟨_, xs.length, rfl, ?_, c.int m p⟩
      rcases hs with hs | hs
      · exact .inl ⟨vs, hs, r2.length⟩
      · exact .inr ⟨vs, hs, r2.length⟩
    · cases e
      obtain ⟨h, e1, e2⟩ := m _ _ hm
      obtain ⟨ks, rfl, _, hk, _⟩ := e2
      refine .inr ⟨_, ks, by rw [show w = .ref _ from r], e1, ?_⟩
      have : ks.length = kvs.length := by have := congrArg List.length hk; simpa using this
      rw [this]
      exact c.int m p
  | [.non], h | [.bl _], h | [.int _], h | [.tup _], h | [.ty _], h | [.tmp _], h | [.kl _], h =>
    obtain ⟨w, rfl, r⟩ := ress1 rr
    rcases h with ⟨xs, e, p⟩ | ⟨a, kvs, e, hm, p⟩
    · obtain ⟨a, vs, rfl, hs, r2, _⟩ := seq_res m r e
      refine .inl ⟨_, xs.length, rfl, ?_, c.int m p⟩
      rcases hs with hs | hs
      · exact .inl ⟨vs, hs, r2.length⟩
      · exact .inr ⟨vs, hs, r2.length⟩
    · exact nomatch e
theorem bf_abs : BfG X .abs := by
  refine ⟨_, call_abs, fun H0 μ H xs ws P Q m rr c h => ?_⟩
  match xs, h with
  | [.int i], h =>
    obtain ⟨w, rfl, r⟩ := ress1 rr
    exact ⟨i, by rw [res_int r], c.int m h⟩
theorem bf_int : BfG X .int := by
  refine ⟨_, call_int1.or call_int_str, fun H0 μ H xs ws P Q m rr c h => ?_⟩
  match xs, h with
  | [.int i], h =>
    obtain ⟨w, rfl, r⟩ := ress1 rr
    exact .inl (.inl ⟨i, by rw [res_int r], c.int m h⟩)
  | [.bl i], h =>
    obtain ⟨w, rfl, r⟩ := ress1 rr
    exact .inl (.inr ⟨i, by rw [res_bl r], c.int m h⟩)
  | [.str z], ⟨n, h1, h2, p⟩ =>
    obtain ⟨w, rfl, r⟩ := ress1 rr
    exact .inr ⟨z, n, by rw [(res_str r).1], h1, h2, c.int m p⟩
theorem bf_list : BfG X .list := by
  refine ⟨_, call_list_of, fun H0 μ H xs ws P Q m rr c h => ?_⟩
  match xs, h with
  | [x], ⟨ys, e, p⟩ =>
    obtain ⟨w, rfl, r⟩ := ress1 rr
    obtain ⟨a, vs, rfl, hs, r2, z⟩ := seq_res m r e
    exact ⟨a, vs, rfl, hs, fun l n => c.tmp m n r2 z p⟩
theorem bf_tuple : BfG X .tuple := by
  refine ⟨_, call_tuple_of, fun H0 μ H xs ws P Q m rr c h => ?_⟩
  match xs, h with
  | [x], ⟨ys, e, p⟩ =>
    obtain ⟨w, rfl, r⟩ := ress1 rr
    obtain ⟨a, vs, rfl, hs, r2, z⟩ := seq_res m r e
    refine ⟨a, vs, rfl, ?_⟩
    rcases hs with hs | hs
    · exact .inl ⟨hs, fun l n => c.tup m n r2 z p⟩
    · exact .inr ⟨hs, c.here (v := .tup ys) m ⟨a, vs, rfl, hs, z, r2⟩ p⟩
theorem bf_sum (hc : X.calm = true) : BfG X .sum := by
  refine ⟨_, cr_sum hc, fun H0 μ H xs ws P Q m rr c h => ?_⟩
  match xs, h with
  | [x], ⟨ys, ns, e, e2, p⟩ =>
    obtain ⟨w, rfl, r⟩ := ress1 rr
    obtain ⟨a, vs, rfl, hs, r2, z⟩ := lst_res m r e
    have := ints_rep r2 e2
    subst this
    exact ⟨a, ns, rfl, SqL.of hs, c.int m p⟩
theorem bf_all (hc : X.calm = true) : BfG X .all := by
  refine ⟨_, cr_all hc, fun H0 μ H xs ws P Q m rr c h => ?_⟩
  match xs, h with
  | [x], ⟨ys, ns, e, e2, p⟩ =>
    obtain ⟨w, rfl, r⟩ := ress1 rr
    obtain ⟨a, vs, rfl, hs, r2, z⟩ := lst_res m r e
    have := bls_rep r2 e2
    subst this
    exact ⟨a, ns, rfl, SqL.of hs, c.bl m p⟩
theorem bf_any (hc : X.calm = true) : BfG X .any := by
  refine ⟨_, cr_any hc, fun H0 μ H xs ws P Q m rr c h => ?_⟩
  match xs, h with
  | [x], ⟨ys, ns, e, e2, p⟩ =>
    obtain ⟨w, rfl, r⟩ := ress1 rr
    obtain ⟨a, vs, rfl, hs, r2, z⟩ := lst_res m r e
    have := bls_rep r2 e2
    subst this
    exact ⟨a, ns, rfl, SqL.of hs, c.bl m p⟩
theorem bf_max (hc : X.calm = true) : BfG X .max := by
  refine ⟨_, (call_max2 hc).or (cr_max hc), fun H0 μ H xs ws P Q m rr c h => ?_⟩
  have one : ∀ x, xs = [x] → (∃ xs ns, lstOf μ x = some xs ∧ allOf intOf xs = some ns ∧ 0 < ns.length ∧ ∀ m, m ∈ ns → (∀ y, y ∈ ns → y ≤ m) → P (.int m) μ) → rMax X.K ws H Q := fun x e ⟨ys, ns, e1, e2, z, p⟩ => by
    subst e
    obtain ⟨w, rfl, r⟩ := ress1 rr
    obtain ⟨a, vs, rfl, hs, r2, _⟩ := lst_res m r e1
    have := ints_rep r2 e2
    subst this
    exact ⟨a, ns, rfl, SqL.of hs, z, fun k h1 h2 => c.int m (p k h1 h2)⟩
  match xs, h with
  | [.int i, .int j], h =>
    obtain ⟨w, u, rfl, r, q⟩ := ress2 rr
    exact .inl ⟨i, j, by rw [res_int r, res_int q], c.int m h⟩
  | [x], h => exact .inr (one _ rfl (by cases x <;> exact h))
theorem bf_min (hc : X.calm = true) : BfG X .min := by
  refine ⟨_, (call_min2 hc).or ((cr_min hc).or (call_min4 hc)), fun H0 μ H xs ws P Q m' rr c h => ?_⟩
  have one : ∀ x, xs = [x] → (∃ xs ns, lstOf μ x = some xs ∧ allOf intOf xs = some ns ∧ 0 < ns.length ∧ ∀ m, m ∈ ns → (∀ y, y ∈ ns → m ≤ y) → P (.int m) μ) → rMin X.K ws H Q := fun x e ⟨ys, ns, e1, e2, z, p⟩ => by
    subst e
    obtain ⟨w, rfl, r⟩ := ress1 rr
    obtain ⟨a, vs, rfl, hs, r2, _⟩ := lst_res m' r e1
    have := ints_rep r2 e2
    subst this
    exact ⟨a, ns, rfl, SqL.of hs, z, fun k h1 h2 => c.int m' (p k h1 h2)⟩
  match xs, h with
  | [.int i, .int j], h =>
    obtain ⟨w, u, rfl, r, q⟩ := ress2 rr
    exact .inl ⟨i, j, by rw [res_int r, res_int q], c.int m' h⟩
  | [.int i, .int j, .int k, .int l], h =>
    obtain ⟨w1, r1, rfl, h1, h2⟩ := rr
    obtain ⟨w2, r2, rfl, h3, h4⟩ := h2
    obtain ⟨w3, w4, rfl, h5, h6⟩ := ress2 h4
    exact .inr (.inr ⟨i, j, k, l, by rw [res_int h1, res_int h3, res_int h5, res_int h6], fun m hm hl => c.int m' (h m hm hl)⟩)
  | [x], h => exact .inr (.inl (one _ rfl (by cases x <;> exact h)))
theorem RepVs.ints {K : PySem.W.Frag} {H : Hp} : ∀ ns : List Int, RepVs K H (ns.map .int) (ns.map V.int)
  | [] => RepVs.nil
  | n :: ns => RepVs.cons rfl (RepVs.ints ns)
theorem bf_sorted : BfG X .sorted := by
  refine ⟨_, cr_sortedI, fun H0 μ H xs ws P Q m rr c h => ?_⟩
  match xs, h with
  | [x], ⟨ys, ns, e1, e2, p⟩ =>
    obtain ⟨w, rfl, r⟩ := ress1 rr
    obtain ⟨a, vs, rfl, hs, r2, z⟩ := lst_res m r e1
    have := ints_rep r2 e2
    subst this
    refine ⟨a, ns, rfl, SqL.of hs, fun ns' q hp ho n => ?_⟩
    refine c.tmp m n (RepVs.ints ns') ?_ (p ns' hp ho)
    rw [List.length_map, hp.length_eq]
    have := r2.length
    rw [List.length_map] at this
    omega
theorem bf_str : BfG X .str := by
  refine ⟨_, call_str_int.or SkE.call_str_str, fun H0 μ H xs ws P Q m rr c h => ?_⟩
  match xs, h with
  | [.int i], ⟨h1, h2, p⟩ =>
    obtain ⟨w, rfl, r⟩ := ress1 rr
    exact .inl ⟨i, by rw [res_int r], h1, c.here (v := .str _) m ⟨rfl, h2⟩ p⟩
  | [.str z], h =>
    obtain ⟨w, rfl, r⟩ := ress1 rr
    obtain ⟨rfl, hz⟩ := res_str r
    exact .inr ⟨z, rfl, c.here (v := .str z) m ⟨rfl, hz⟩ h⟩
theorem bf_no {b : Bf} (h : ∀ xs μ P, ¬ bfW b xs μ P) : BfG X b := ⟨_, callR_never, fun H0 μ H xs ws P Q m rr c q => h _ _ _ q⟩

theorem bf_g (b : Bf) (hc : bfCool b = false → X.calm = true) : BfG X b := by
  cases b
  · exact bf_len
  · exact bf_abs
  · exact bf_int
  · exact bf_str
  · exact bf_list
  · exact bf_tuple
  · exact bf_sum (hc rfl)
  · exact bf_max (hc rfl)
  · exact bf_min (hc rfl)
  · exact bf_all (hc rfl)
  · exact bf_any (hc rfl)
  · exact bf_sorted
  all_goals exact bf_no fun xs μ P h => by unfold bfW at h; exact h

theorem g_idx : ∃ r, IxR X r ∧ ∀ (H0 : Hp) (μ : PM) (H : Hp) (x y : PV) (w u : V) (P : Post) (Q : VK), RepH X.K H μ → Res X.K H0 μ H x w → Res X.K H0 μ H y u → Cont X.K μ H P Q → idxW x y μ P → r w u H Q := by
  refine ⟨_, ix_list.or (ix_tup.or ix_str), fun H0 μ H x y w u P Q m rx ry c h => ?_⟩
  have seq : ∀ i, u = .int i → (∃ xs v, seqOf μ x = some xs ∧ atI xs i = some v ∧ P v μ) → rIxL X.K w u H Q ∨ rIxT X.K w u H Q ∨ rIxS w u H Q := fun i hu ⟨xs, v, e, q, p⟩ => by
    obtain ⟨a, vs, rfl, hs, r, _⟩ := seq_res m rx e
    unfold atI at q
    obtain ⟨k, q1, q2⟩ := Option.bind_eq_some_iff.mp q
    obtain ⟨w, e1, e2⟩ := r.get q2
    have q3 : atI vs i = some w := by unfold atI; rw [← r.length, q1]; exact e1
    rcases hs with hs | hs
    · exact .inl ⟨a, vs, i, w, rfl, hu, hs, q3, c.here m e2 p⟩
    · exact .inr (.inl ⟨a, vs, i, w, rfl, hu, hs, q3, c.here m e2 p⟩)
  cases y with
  | int i =>
    have hu := res_int ry
    cases x with
    | str z =>
      obtain ⟨k, e, p⟩ := h
      obtain ⟨rfl, hz⟩ := res_str rx
      exact .inr (.inr ⟨z, i, k, rfl, hu, hz, e, c.here (v := .str ⟨#[k]⟩) m ⟨rfl, by rw [sizeLine_eq]; show 1 ≤ _; decide⟩ p⟩)
    | _ => exact seq i hu h
  | _ => cases x <;> exact h.elim
theorem cut_rep {K : PySem.W.Frag} {H : Hp} {xs : List PV} {vs : List V} (r : RepVs K H xs vs) (lo hi : Option Int) : RepVs K H (cutP xs lo hi) (cutV vs lo hi) := by
  unfold cutP cutV
  rw [r.length]
  exact (r.drop _).take _
theorem cutP_length (xs : List PV) (lo hi : Option Int) : (cutP xs lo hi).length ≤ xs.length := by
  unfold cutP
  rw [List.length_take, List.length_drop]
  omega
theorem cutS_length (z : Str) (lo hi : Option Int) : (cutS z lo hi).length ≤ z.length := by
  show ((z.cps.toList.drop _).take _).toArray.size ≤ z.cps.size
  rw [List.size_toArray, List.length_take, List.length_drop, Array.length_toList]
  omega
theorem cutV_whole {vs : List V} {lo hi : Option Int} (h : HT.sIx vs.length 0 lo = 0 ∧ HT.sIx vs.length vs.length hi = vs.length) : cutV vs lo hi = vs := by
  unfold cutV
  rw [h.1, h.2]
  simp
theorem g_slc : ∃ r, L2.SlR X r ∧ ∀ (H0 : Hp) (μ : PM) (H : Hp) (x : PV) (w : V) (lo hi : Option Int) (P : Post) (Q : VK), RepH X.K H μ → Res X.K H0 μ H x w → Cont X.K μ H P Q → slcW x lo hi μ P → r w lo hi H Q := by
  refine ⟨_, sl_str.or (sl_tupA.or sl_list), fun H0 μ H x w lo hi P Q m rx c h => ?_⟩
  have tup : ∀ xs a vs, w = .ref a → SqT X.K H a vs → RepVs X.K H xs vs → xs.length ≤ sizeLine → P (.tup (cutP xs lo hi)) μ → rSlA X.K w lo hi H Q := fun xs a vs hw hs r z p => by
    refine ⟨a, vs, hw, hs, fun q => ?_, fun _ p' n => ?_⟩
    · refine c.here (v := .tup (cutP xs lo hi)) m ⟨a, vs, rfl, hs, Nat.le_trans (cutP_length _ _ _) z, ?_⟩ p
      have := cut_rep r lo hi
      rw [cutV_whole q] at this
      exact this
    · exact c.tup m n (cut_rep r lo hi) (Nat.le_trans (cutP_length _ _ _) z) p
  have seq : (∃ xs, lstOf μ x = some xs ∧ P (.tmp (cutP xs lo hi)) μ) ∨ (∃ xs, seqOf μ x = some xs ∧ (∃ a vs, w = .ref a ∧ SqL X.K H a vs ∧ RepVs X.K H xs vs ∧ xs.length ≤ sizeLine) ∧ P (.tmp (cutP xs lo hi)) μ) → rSlL X.K w lo hi H Q := fun h => by
    rcases h with ⟨xs, e, p⟩ | ⟨xs, e, ⟨a, vs, hw, hs, r, z⟩, p⟩
    · obtain ⟨a, vs, rfl, hs, r, z⟩ := lst_res m rx e
      exact ⟨a, vs, rfl, SqL.of hs, fun p' n => c.tmp m n (cut_rep r lo hi) (Nat.le_trans (cutP_length _ _ _) z) p⟩
    · exact ⟨a, vs, hw, hs, fun p' n => c.tmp m n (cut_rep r lo hi) (Nat.le_trans (cutP_length _ _ _) z) p⟩
  cases x with
  | str z =>
    obtain ⟨rfl, hz⟩ := res_str rx
    exact .inl ⟨z, rfl, hz, c.here (v := .str _) m ⟨rfl, Nat.le_trans (cutS_length _ _ _) hz⟩ h⟩
  | tup xs =>
    obtain ⟨a, vs, e, s, z, r⟩ := res_tup rx
    exact .inr (.inl (tup xs a vs e s r z h))
  | tmp xs => obtain ⟨ys, e, p⟩ := h; exact .inr (.inr (seq (.inl ⟨ys, by cases e; rfl, p⟩)))
  | ref a =>
    obtain ⟨ys, e, p⟩ := h
    have hw := res_ref rx
    cases q : μ a with
    | none => simp [seqOf, q] at e
    | some o =>
      obtain ⟨h, e1, e2⟩ := m a o q
      cases o with
      | lst zs => exact .inr (.inr (seq (.inl ⟨ys, by simpa [seqOf, lstOf, q] using e, p⟩)))
      | frz zs =>
        obtain ⟨o, vs, rfl, z, r2⟩ := e2
        have : zs = ys := by simpa [seqOf, q] using e
        subst this
        exact .inr (.inr (seq (.inr ⟨_, e, ⟨a, vs, hw, .inl (.inr ⟨o, e1⟩), r2, z⟩, p⟩)))
      | dk _ => simp [seqOf, q] at e
      | dt _ => simp [seqOf, q] at e
      | ins _ _ => simp [seqOf, q] at e
  | non => obtain ⟨ys, e, p⟩ := h; cases e
  | bl _ => obtain ⟨ys, e, p⟩ := h; cases e
  | int _ => obtain ⟨ys, e, p⟩ := h; cases e
  | ty _ => obtain ⟨ys, e, p⟩ := h; cases e
  | kl xs =>
    obtain ⟨ys, e, p⟩ := h
    cases e
    obtain ⟨a, vs, hw, hs, z, r⟩ := (show ∃ a vs, w = .ref a ∧ KLst X.K a vs ∧ xs.length ≤ sizeLine ∧ RepVs X.K H xs vs from rx)
    exact .inr (.inr (seq (.inr ⟨_, rfl, ⟨a, vs, hw, .inr hs, r, z⟩, p⟩)))

def clV (K : PySem.W.Frag) : Cl → Value
  | .bt n => .type n
  | .own c => .ref (He.ga K c)
/-- what of the text an own class must have to be asked of its instances -/
structure InsOk (K : PySem.W.Frag) (c : Str) : Prop where
  cl : Cls K (He.ga K c)
  ha : PySem.W.findIn K (.ref (He.ga K c)) "__class__" = some (some (.builtin "object.__class__"))
  hn : PySem.W.specialIn K (.builtin "object.__class__") "__get__" = some (some (.builtin "getset_descriptor.__get__"))
  tk : PySem.W.takesIn K (.builtin "object.__class__") = some true
  hm : PySem.W.mroIn K (He.ga K c) (.type "object") = some true
theorem ty_res {H0 H : Hp} {μ : PM} {x : PV} {w : V} {t : Cl} (m : RepH X.K H μ) (r : Res X.K H0 μ H x w) (e : tyOf μ x = some t) (ho : ∀ c, t = .own c → InsOk X.K c) : TyX X.K H w (clV X.K t) := by
  cases x with
  | non => cases e; rw [res_non r]; exact .base .non
  | bl b => cases e; rw [res_bl r]; exact .base (.bl b)
  | int i => cases e; rw [res_int r]; exact .base (.int i)
  | str z => cases e; rw [(res_str r).1]; exact .base (.str z)
  | tup xs =>
    cases e
    obtain ⟨a, vs, rfl, s, _, _⟩ := res_tup r
    rcases s with (s | ⟨o, s⟩) | ⟨o, its, n, k1, k2, _⟩
    · exact .base (.tup s)
    · exact .fTuple s
    · exact .kTuple k1 k2
  | tmp xs =>
    cases e
    obtain ⟨a, vs, rfl, _, h, _⟩ := r
    exact .base (.lst h)
  | ty n => cases e
  | kl _ => cases e
  | ref a =>
    rw [res_ref r]
    simp only [tyOf] at e
    cases q : μ a with
    | none => rw [q] at e; cases e
    | some o =>
      obtain ⟨h, e1, e2⟩ := m a o q
      rw [q] at e
      cases o with
      | lst ys => cases e; obtain ⟨vs, rfl, _⟩ := e2; exact .base (.lst e1)
      | frz ys => cases e; obtain ⟨o, vs, rfl, _⟩ := e2; exact .base (.frz e1)
      | dk ys => cases e; obtain ⟨vs, rfl, _⟩ := e2; exact .base (.dK e1)
      | dt ys => cases e; obtain ⟨vs, rfl, _⟩ := e2; exact .base (.dT e1)
      | ins c fs =>
        cases e
        obtain ⟨dx, gs, rfl, _⟩ := e2
        have k := ho c rfl
        exact .base (.ins e1 k.cl k.ha k.hn k.tk k.hm)
end
end G

namespace G
open PySem PySem.Spec PyProof.Rows L2
variable [tb : Tb]

/-- a source: a list, a tuple, a text -/
inductive SK where
  | l (a : Addr) | t (a : Addr) | s (x : Str) (tk : Tok)
def SK.val : SK → Value
  | .l a => .ref a | .t a => .ref a | .s x tk => .str x tk
def SK.obj : SK → Obj
  | .l a => { cls := .type "list_iterator", data := .fields #[.ref a, .int 0 0] }
  | .t a => { cls := .type "tuple_iterator", data := .fields #[.ref a, .int 0 0] }
  | .s x tk => { cls := .type (strIterType x), data := .fields #[.str x tk, .int 0 0] }
def SK.It (k : SK) (it : Addr) (i : Nat) (h : Heap) : Prop := match k with
  | .l a => h.IsListIter it a i
  | .t a => h.IsTupleIter it a i
  | .s x tk => h.IsStrIter it (strIterType x) x tk i
def chars (x : Str) : List V := x.cps.toList.map fun c => .str ⟨#[c]⟩
def SK.Is (K : PySem.W.Frag) (H : Hp) (k : SK) (vs : List V) : Prop := match k with
  | .l a => SqL K H a vs
  | .t a => SqT K H a vs
  | .s x _ => vs = chars x
def SK.cells : SK → List Addr
  | .l a => [a] | .t a => [a] | .s _ _ => []
theorem SK.It.get {k : SK} {it : Addr} {i : Nat} {h : Heap} (z : k.It it i h) : ∃ o n vs, h.get? it = some o ∧ o.cls = .type n ∧ o.data = .fields vs := by
  cases k with
  | l a => obtain ⟨o, h1, h2, h3⟩ := z; exact ⟨o, _, _, h1, h2, h3⟩
  | t a => obtain ⟨o, h1, h2, h3⟩ := z; exact ⟨o, _, _, h1, h2, h3⟩
  | s x tk => obtain ⟨o, h1, h2, h3⟩ := z; exact ⟨o, _, _, h1, h2, h3⟩
theorem SK.It.at {k : SK} {it : Addr} {i : Nat} {h h' : Heap} (z : k.It it i h) (e : ∀ o, h.get? it = some o → h'.get? it = some o) : k.It it i h' := by
  cases k with
  | l a => obtain ⟨o, h1, h2⟩ := z; exact ⟨o, e o h1, h2⟩
  | t a => obtain ⟨o, h1, h2⟩ := z; exact ⟨o, e o h1, h2⟩
  | s x tk => obtain ⟨o, h1, h2⟩ := z; exact ⟨o, e o h1, h2⟩
theorem SK.It.of_obj {k : SK} {it : Addr} {h : Heap} (e : h.get? it = some k.obj) : k.It it 0 h := by
  cases k with
  | l a => exact ⟨_, e, rfl, rfl⟩
  | t a => exact ⟨_, e, rfl, rfl⟩
  | s x tk => exact ⟨_, e, rfl, rfl⟩
section
variable {X : Cx} {pins : List (Addr × Obj)} {σ : St} {H : Hp} {s : Shared}
theorem SK.inj {k : SK} {vs ws : List V} (I : Inv X pins σ H s) (a : k.Is X.K H vs) (b : k.Is X.K H ws) : vs = ws := by
  cases k with
  | l _ => exact I.list_inj a b
  | t _ => exact I.tuple_inj a b
  | s x _ => exact (show vs = chars x from a).trans (show ws = chars x from b).symm
theorem vals_get {vs : List V} {its : List Value} (r : Vals vs its) {i : Nat} {v : Value} (h : its[i]? = some v) : ∃ w, vs[i]? = some w ∧ RelV w v := by
  cases e : vs[i]? with
  | none => rw [Vals.none_of r e] at h; cases h
  | some w =>
    obtain ⟨u, h1, h2⟩ := r.get e
    rw [h] at h1; cases h1
    exact ⟨w, rfl, h2⟩
/-- a source draws its items -/
theorem SK.draw {k : SK} {it : Addr} {i : Nat} {vs : List V} (A : Around) (hh : A.handled = none) (I : Inv X pins σ H s) (h : k.Is X.K H vs) (z : k.It it i s.heap) :
    ∃ S : Nat → Heap → Prop, Draws X.prog X.w A it (it :: k.cells) vs.length (fun i v => ∃ w, vs[i]? = some w ∧ RelV w v) S ∧ S i s.heap ∧ ∀ j h, S j h → k.It it j h := by
  cases k with
  | l a =>
    obtain ⟨its, r, p, _⟩ := I.list h
    have ne : a ≠ it := fun e => by
      subst e
      obtain ⟨o, h1, h2, _⟩ := z
      obtain ⟨o', _, h3, h4, _⟩ := p
      rw [h1] at h3; cases h3
      rw [h2] at h4; exact absurd h4 (by decide +kernel)
    have D := Draws.list (prog := X.prog) (w := X.w) (A := A) hh it a ne its.toArray
    have e : its.toArray.size = vs.length := by simp [r.length]
    refine ⟨_, ⟨D.live, D.frame, fun i s Q E hi st hQ => D.item i s Q E (by omega) st fun x h' tk hp => hQ x h' tk (vals_get r (by simpa using hp)), fun s Q E st hE => D.done s Q E (by rw [e]; exact st) hE⟩, ⟨z, p.isList⟩, fun j h q => q.1⟩
  | t a =>
    obtain ⟨its, r, p, _⟩ := I.tuple h
    have ne : a ≠ it := fun e => by
      subst e
      obtain ⟨o, h1, h2, _⟩ := z
      obtain ⟨o', h3, h4, _⟩ := p
      rw [h1] at h3; cases h3
      rw [h2] at h4; exact absurd h4 (by decide +kernel)
    have D := Draws.tuple (prog := X.prog) (w := X.w) (A := A) hh it a ne its.toArray
    have e : its.toArray.size = vs.length := by simp [r.length]
    refine ⟨_, ⟨D.live, D.frame, fun i s Q E hi st hQ => D.item i s Q E (by omega) st fun x h' tk hp => hQ x h' tk (vals_get r (by simpa using hp)), fun s Q E st hE => D.done s Q E (by rw [e]; exact st) hE⟩, ⟨z, p⟩, fun j h q => q.1⟩
  | s x tk =>
    have D := Draws.text (prog := X.prog) (w := X.w) (A := A) hh it x tk
    have hv : vs = chars x := h
    subst hv
    have e : (chars x).length = x.cps.size := by simp [chars]
    refine ⟨_, ⟨D.live, fun i h h' st k => D.frame i h h' st fun b hb => k b (by simp at hb; subst hb; exact List.mem_cons_self ..), fun i s Q E hi st hQ => D.item i s Q E (by omega) st fun v h' tk' hp => ?_, fun s Q E st hE => D.done s Q E (by rw [← e]; exact st) hE⟩, z, fun j h q => q⟩
    obtain ⟨c, u, h1, rfl⟩ := hp
    exact hQ _ h' tk' ⟨.str ⟨#[c]⟩, by simp [chars, h1], ⟨u, rfl⟩⟩
theorem SK.apart {k : SK} {vs : List V} {b : Addr} (I : Inv X pins σ H s) (h : k.Is X.K H vs) (f : FpOk X pins H b) : b ∉ k.cells := by
  have tracked : ∀ a u, H a = some u → b ≠ a := fun a u e z => by subst z; rw [f.1] at e; cases e
  have known : ∀ a o, X.K.lookup a = some o → b ≠ a := fun a o e z => by
    subst z
    have e1 := I.mod.kin b o e
    rcases f.2.2.2.1 with q | q
    · exact I.ok.noex b o e1 q
    · exact absurd (Heap.lt_size (I.ok.bs b o e1).1) (Nat.not_lt.mpr q)
  cases k with
  | l a =>
    intro hb
    have e : b = a := by simpa [SK.cells] using hb
    rcases h with (h | ⟨o, h⟩) | ⟨o, its, n, h, _⟩
    · exact tracked _ _ h e
    · exact tracked _ _ h e
    · exact known _ _ h e
  | t a =>
    intro hb
    have e : b = a := by simpa [SK.cells] using hb
    rcases h with (h | ⟨o, h⟩) | ⟨o, its, n, h, _⟩
    · exact tracked _ _ h e
    · exact tracked _ _ h e
    · exact known _ _ h e
  | s x tk => simp [SK.cells]
/-- iter(source) -/
theorem SK.begins {k : SK} {vs : List V} (I : Inv X pins σ H s) (h : k.Is X.K H vs) : ∃ C : Heap → Prop, Begins k.val k.obj C ∧ C s.heap := by
  cases k with
  | l a => obtain ⟨its, r, p, _⟩ := I.list h; exact ⟨_, begins_list a its.toArray, p.isList⟩
  | t a => obtain ⟨its, r, p, _⟩ := I.tuple h; exact ⟨_, begins_tuple a its.toArray, p⟩
  | s x tk => exact ⟨_, begins_text x tk, True.intro⟩
end
/-- a source of a value -/
def SkV (K : PySem.W.Frag) (H : Hp) (w : V) (k : SK → Prop) : Prop := (∃ a vs, w = .ref a ∧ SqL K H a vs ∧ k (.l a)) ∨ (∃ a vs, w = .ref a ∧ SqT K H a vs ∧ k (.t a)) ∨ (∃ x, w = .str x ∧ ∀ tk, k (.s x tk))

def JE (K : PySem.W.Frag) (k : SK) : It :=
  ⟨fun i H => ∃ vs, k.Is K H vs ∧ i < vs.length, fun i H v H' => ∃ T x, v = .ref T ∧ H T = none ∧ H' = upd H T (.tup [.int (i : Nat), x]) ∧ ∀ vs, k.Is K H vs → vs[i]? = some x, fun i H => ∃ vs, k.Is K H vs ∧ vs.length = i⟩
theorem turn_enumG {P : Program} {w : World} {K : PySem.W.Frag} {elts : List Expr} {kk : Nat} {tpos : Pos} (k : SK) (e it : Addr) :
    Turn P w K (.Tuple elts kk tpos) (JE K k) [e, it] e (fun i h => (∃ old, IsEnum h e it ((0 : Int) + (i : Int)) old) ∧ k.It it i h ∧ e ≠ it) where
  mem := by simp
  obj := fun i h st b hb => by
    obtain ⟨⟨old, he⟩, hi, _⟩ := st
    obtain ⟨o, n, vs, ho, hc, hd⟩ := hi.get
    have e' : b = e ∨ b = it := by simpa using hb
    rcases e' with z | z
    · rw [z]; exact ⟨_, he, fun v q => nomatch q⟩
    · rw [z]; exact ⟨o, ho, fun v q => by rw [hd] at q; cases q⟩
  keep := fun i h h' st q => let ⟨⟨old, he⟩, hi, hne⟩ := st; ⟨⟨old, q e (by simp) _ he⟩, hi.at fun o z => q it (by simp) o z, hne⟩
  item := by
    intro X hP hw hK hc i pins s σ H E I hf st hg
    subst hP hw hK
    obtain ⟨⟨old, he⟩, hit, hne⟩ := st
    obtain ⟨vs, hq, hlt⟩ := hg
    obtain ⟨S, D, s0, sI⟩ := SK.draw X.A.in1 (I.ok.hd hc) I hq hit
    have hel : e < s.heap.objs.size := Heap.lt_size he
    have hil : it < s.heap.objs.size := by obtain ⟨_, _, _, q, _⟩ := hit.get; exact Heap.lt_size q
    have hef : e ∉ it :: k.cells := fun z => (List.mem_cons.mp z).elim hne (SK.apart I hq (hf e (by simp)))
    have W := WalksT.enumFrom 0 D e hne hef (List.mem_cons_self ..)
    refine W.item i s _ _ hlt ⟨⟨old, he⟩, s0⟩ fun T vals h' tk hp hT0 hT hmid hk => ?_
    refine ⟨_, rfl, W.go _ _ _ i T _ _ _ hmid fun h'' st'' hk'' => ?_⟩
    obtain ⟨t, x, ⟨wx, hx1, hx2⟩, rfl⟩ := hp
    have hk2 : ∀ b o, b ∉ [e, it] → s.heap.get? b = some o → h''.get? b = some o := fun b o hb q => hk'' b o hb (hk b o hb q)
    have hT2 : h''.IsTuple T #[.int ((0 : Int) + (i : Int)) t, x] := by
      obtain ⟨o, h1, h2⟩ := hT
      exact ⟨o, hk'' T o (W.apart _ _ _ hmid) h1, h2⟩
    have e0 : (0 : Int) + (i : Int) = (i : Nat) := by omega
    have new : ObjOk X.prog X.w (upd H T (.tup [.int (i : Nat), wx])) h'' T (.tup [.int (i : Nat), wx]) := by
      rw [e0] at hT2
      exact ⟨by show 2 ≤ sizeLine; rw [sizeLine_eq]; decide, [.int ((i : Nat) : Int) t, x], .cons ⟨_, rfl⟩ (.cons hx2 .nil), hT2⟩
    have I1 : Inv X pins σ (upd H T (.tup [.int (i : Nat), wx])) { s with heap := h'', toks := tk } :=
      I.turnedNew (t' := tk) (ch := [e, it]) hk2 hf hT0 new
    refine ⟨.ref T, _, I1, rfl, ⟨T, wx, rfl, I.hok.fresh hT0, rfl, fun ws hw' => by rw [SK.inj I hw' hq]; exact hx1⟩, ⟨?_, sI _ _ st''.2, hne⟩, fun b hb => ?_⟩
    · obtain ⟨old', h1⟩ := st''.1
      exact ⟨old', by have e1 : ((i + 1 : Nat) : Int) = (i : Int) + 1 := by omega
                      exact h1⟩
    · have hb' : b < s.heap.objs.size := by
        have e' : b = e ∨ b = it := by simpa using hb
        rcases e' with z | z
        · rw [z]; exact hel
        · rw [z]; exact hil
      rw [upd_ne (Nat.ne_of_lt (Nat.lt_of_lt_of_le hb' hT0))]
      exact (hf b hb).1
  done := by
    intro X hP hw hK hc i pins s σ H E I hf st hg
    subst hP hw hK
    obtain ⟨⟨old, he⟩, hit, hne⟩ := st
    obtain ⟨vs, hq, rfl⟩ := hg
    obtain ⟨S, D, s0, sI⟩ := SK.draw X.A.in1 (I.ok.hd hc) I hq hit
    have hef : e ∉ it :: k.cells := fun z => (List.mem_cons.mp z).elim hne (SK.apart I hq (hf e (by simp)))
    exact (WalksT.enumFrom 0 D e hne hef (List.mem_cons_self ..)).done s _ _ ⟨⟨old, he⟩, s0⟩ fun h' tk hk => ⟨rfl, I.turnedL (t' := tk) hk hf⟩
  self := fun A i s Q E st h => let ⟨⟨_, he⟩, _⟩ := st; wpAny_pyIter_enum he h

set_option maxHeartbeats 1000000 in
theorem meets_enumerate_newB1 {v : Value} {o : Obj} {H : Heap → Prop} (B : Begins v o H) :
    Meets (Builtin.«enumerate.__new__» ⟨[.type "enumerate", v], []⟩) (fun _ R s => H s.heap ∧
      R (.ok (.ret (.ref (s.heap.push o).objs.size))) { s with heap := (s.heap.push o).push { cls := .type "enumerate", data := .fields #[.none, .bool false, .ref s.heap.objs.size, rawInt 0, .none, .none] } }) :=
  .of_wp fun prog w A R s h => by
    obtain ⟨hp, g, d, tk, os⟩ := s; obtain ⟨h1, h⟩ := h
    have hsub := sub_enumerate
    have q1 : ∀ {A' : Around} {E : Value → Shared → Prop} {Q : Value → Shared → Prop}, Q (.ref hp.objs.size) ⟨hp.push o, g, d, tk, os⟩ → wpAny (model prog w) A' (pyIter v) Q E ⟨hp, g, d, tk, os⟩ :=
      fun q => B.iter prog w _ _ ⟨hp, g, d, tk, os⟩ _ h1 q
    wp_walk using q1
    refine wpAny_stack_any fun st => wpAny_pure ?_
    split
    · rename_i c _ _ _ _ _
      cases (c == Value.type "enumerate")
      · wp_walk using q1
        exact ⟨_, rfl, h⟩
      · wp_walk using q1
        exact ⟨_, rfl, h⟩
    · wp_walk using q1
      exact ⟨_, rfl, h⟩
theorem enum_begins1 {prog : Program} {w : World} {A : Around} {E : Value → Shared → Prop} {s : Shared} {v : Value} {o : Obj} {H : Heap → Prop} {Q : Value → Shared → Prop} (B : Begins v o H) (h1 : H s.heap)
    (h : ∀ h', IsEnum h' (s.heap.objs.size + 1) s.heap.objs.size 0 .none → h'.get? s.heap.objs.size = some o → h'.objs.size = s.heap.objs.size + 2 →
      (∀ b o, s.heap.get? b = some o → h'.get? b = some o) → Q (.ref (s.heap.objs.size + 1)) { s with heap := h' }) :
    wpAny (model prog w) A (call (.type "enumerate") [v]) Q E s := by
  refine callType_new F.called_enumerate (by decide) (F.typeCall_enumerate_1 _) (F.newCall_enumerate_1 _) (fun obj => F.args_object_init_2 obj _) F.entry_enumerate_new
    (meets_enumerate_newB1 B) ⟨h1, ?_⟩
  have hz : (s.heap.push o).objs.size = s.heap.objs.size + 1 := Heap.size_push ..
  show _ ∧ _
  rw [hz]
  have he : IsEnum ((s.heap.push o).push { cls := .type "enumerate", data := .fields #[.none, .bool false, .ref s.heap.objs.size, rawInt 0, .none, .none] }) (s.heap.objs.size + 1) s.heap.objs.size 0 .none := by
    have := Heap.get?_push_size (s.heap.push o) (o := { cls := .type "enumerate", data := .fields #[.none, .bool false, .ref s.heap.objs.size, rawInt 0, .none, .none] }) rfl
    rw [hz] at this; exact this
  refine ⟨⟨_, he, rfl⟩, h _ he (Heap.get?_push_of_some _ (Heap.get?_push_size _ B.free)) (by rw [Heap.size_push, hz]) fun b o x => Heap.get?_push_of_some _ (Heap.get?_push_of_some _ x)⟩

section
variable {X : Cx}
theorem fresh_fp {pins : List (Addr × Obj)} {σ : St} {H : Hp} {s : Shared} (I : Inv X pins σ H s) {b : Addr} (hb : s.heap.objs.size ≤ b) : FpOk X pins H b := I.fpOk hb (I.hok.fresh hb)
def iEnumG (K : PySem.W.Frag) (ta : TA) : TI := fun σ H R => ta σ H fun vs H1 => ∃ w, vs = [w] ∧ SkV K H1 w fun k => R (JE K k) H1
theorem skv_of {K : PySem.W.Frag} {H : Hp} {w : V} {u : Value} {R : SK → Prop} (r : RelV w u) (h : SkV K H w R) : ∃ k : SK, k.val = u ∧ R k ∧ ∃ vs, k.Is K H vs := by
  rcases h with ⟨a, vs, rfl, hs, q⟩ | ⟨a, vs, rfl, hs, q⟩ | ⟨x, rfl, q⟩
  · exact ⟨.l a, (show u = .ref a from r).symm, q, vs, hs⟩
  · exact ⟨.t a, (show u = .ref a from r).symm, q, vs, hs⟩
  · obtain ⟨t, rfl⟩ := r
    exact ⟨.s x t, rfl, q t, _, rfl⟩
theorem pi_enumG {e : Expr} {ta : TA} {p pos tpos : Pos} {elts : List Expr} {kk : Nat} (hg : Gl X "enumerate") (hm : X.mg "enumerate" = none) (ha : PA X [e] ta) (hs : starEach [e] X.env = [(false, eval e X.env)]) :
    PI X (.Tuple elts kk tpos) (.Call (.Name "enumerate" p) [e] [] pos) (iEnumG X.K ta) := by
  refine ⟨fun pins s σ H R I h => ?_⟩
  refine Call_ (ld_blt I hg hm boot_enumerate (PyProof.Rows.callWith_type1 (thn (ha.run pos pins s σ H _ I h) fun us s1 ⟨vs, H1, I1, r1, q1⟩ => ?_) hs rfl))
  obtain ⟨w, ex, q⟩ := q1
  subst ex
  obtain ⟨u, rfl, r⟩ := vals1 r1
  obtain ⟨k, rfl, q2, ws, hk⟩ := skv_of r q
  obtain ⟨C, B, hC⟩ := SK.begins I1 hk
  refine enum_begins1 B hC fun h' he hit hsz hkp => wpAny_pyIter_enum he ?_
  have I2 : Inv X pins σ H1 { s1 with heap := h' } := I1.kept (t' := s1.toks) hkp
  refine ⟨s1.heap.objs.size + 1, [s1.heap.objs.size + 1, s1.heap.objs.size], _, _, H1, rfl, I2, turn_enumG k (s1.heap.objs.size + 1) s1.heap.objs.size, ⟨⟨.none, he⟩, SK.It.of_obj hit, Nat.succ_ne_self _⟩, fun b hb => ?_, q2⟩
  have e' : b = s1.heap.objs.size + 1 ∨ b = s1.heap.objs.size := by simpa using hb
  refine fresh_fp I1 ?_
  rcases e' with z | z
  · rw [z]; exact Nat.le_add_right _ _
  · rw [z]; exact Nat.le_refl _
end

def JZ (K : PySem.W.Frag) (k1 k2 : SK) : It :=
  ⟨fun i H => ∃ vs ws, k1.Is K H vs ∧ k2.Is K H ws ∧ i < min vs.length ws.length,
    fun i H v H' => ∃ T x y, v = .ref T ∧ H T = none ∧ H' = upd H T (.tup [x, y]) ∧ (∀ vs, k1.Is K H vs → vs[i]? = some x) ∧ ∀ vs, k2.Is K H vs → vs[i]? = some y,
    fun i H => ∃ vs ws, k1.Is K H vs ∧ k2.Is K H ws ∧ min vs.length ws.length = i⟩
structure Ap2 (z TI TO i1 i2 : Addr) : Prop where
  TIz : TI ≠ z
  TOz : TO ≠ z
  TITO : TI ≠ TO
  TIi1 : TI ≠ i1
  TIi2 : TI ≠ i2
  z1 : z ≠ i1
  z2 : z ≠ i2
  T1 : TO ≠ i1
  T2 : TO ≠ i2
  i12 : i1 ≠ i2
theorem turn_zipG {P : Program} {w : World} {K : PySem.W.Frag} {elts : List Expr} {kk : Nat} {tpos : Pos} (k1 k2 : SK) {z TI TO i1 i2 : Addr} (D : Ap2 z TI TO i1 i2) :
    Turn P w K (.Tuple elts kk tpos) (JZ K k1 k2) [z, TI, TO, i1, i2] z (fun i h => IsZip h z TI TO .none ∧ IsTupOf2 h TI (.ref i1) (.ref i2) ∧ (∃ x y, IsTupOf2 h TO x y) ∧ k1.It i1 i h ∧ k2.It i2 i h) where
  mem := by simp
  obj := fun i h st c hc => by
    obtain ⟨hz, hTI, ⟨x, y, hTO⟩, q1, q2⟩ := st
    obtain ⟨o1, _, _, e1, _, d1⟩ := q1.get
    obtain ⟨o2, _, _, e2, _, d2⟩ := q2.get
    have e' : c = z ∨ c = TI ∨ c = TO ∨ c = i1 ∨ c = i2 := by simpa using hc
    rcases e' with q | q | q | q | q
    · rw [q]; exact ⟨_, hz, fun v q => nomatch q⟩
    · rw [q]; exact ⟨_, hTI, fun v q => nomatch q⟩
    · rw [q]; exact ⟨_, hTO, fun v q => nomatch q⟩
    · rw [q]; exact ⟨o1, e1, fun v q => by rw [d1] at q; cases q⟩
    · rw [q]; exact ⟨o2, e2, fun v q => by rw [d2] at q; cases q⟩
  keep := fun i h h' st k => by
    obtain ⟨hz, hTI, ⟨x, y, hTO⟩, h1, h2⟩ := st
    exact ⟨k z (by simp) _ hz, k TI (by simp) _ hTI, ⟨x, y, k TO (by simp) _ hTO⟩, h1.at fun o q => k i1 (by simp) o q, h2.at fun o q => k i2 (by simp) o q⟩
  item := by
    intro X hP hw hK hc i pins s σ H E I hf st hg
    subst hP hw hK
    obtain ⟨hz, hTI, ⟨x0, y0, hTO⟩, q1, q2⟩ := st
    obtain ⟨vs, ws, hv, hw', hlt⟩ := hg
    obtain ⟨S1, D1, s1, sI1⟩ := SK.draw X.A.in1 (I.ok.hd hc) I hv q1
    obtain ⟨S2, D2, s2, sI2⟩ := SK.draw X.A.in1 (I.ok.hd hc) I hw' q2
    have nin : ∀ {b : Addr} {k : SK} {it : Addr} {us : List V}, k.Is X.K H us → b ∈ [z, TI, TO, i1, i2] → b ≠ it → b ∉ it :: k.cells := fun hu hb ne q => (List.mem_cons.mp q).elim ne (SK.apart I hu (hf _ hb))
    have Sp : ZipSep2 z TI TO i1 i2 (i1 :: k1.cells) (i2 :: k2.cells) :=
      { TIz := D.TIz, TOz := D.TOz, TITO := D.TITO, TIi1 := D.TIi1, mem1 := List.mem_cons_self .., zf1 := nin hv (by simp) D.z1, Tf1 := nin hv (by simp) D.T1, TIi2 := D.TIi2, mem2 := List.mem_cons_self ..,
        zf2 := nin hw' (by simp) D.z2, Tf2 := nin hw' (by simp) D.T2, sep1_2 := nin hw' (by simp) D.i12, sep2_1 := nin hv (by simp) D.i12.symm }
    have W := WalksT.zipD2 Sp D1 D2
    refine W.item i s _ _ hlt ⟨hz, hTI, ⟨_, _, hTO⟩, s1, s2⟩ fun T vals h' tk hp hT0 hT hmid hk => ?_
    refine ⟨_, rfl, W.go _ _ _ i T _ _ _ hmid fun h'' st'' hk'' => ?_⟩
    obtain ⟨x1, x2, ⟨w1, a1, b1⟩, ⟨w2, a2, b2⟩, rfl⟩ := hp
    have hk2 : ∀ b o, b ∉ [z, TI, TO, i1, i2] → s.heap.get? b = some o → h''.get? b = some o := fun b o hb q =>
      have hb' : b ∉ [z, TO, i1, i2] := fun q => hb (by simp at q ⊢; rcases q with q | q | q | q <;> simp [q])
      hk'' b o hb' (hk b o hb' q)
    have hT2 : h''.IsTuple T #[x1, x2] := by
      obtain ⟨o, h1, h2⟩ := hT
      exact ⟨o, hk'' T o (W.apart _ _ _ hmid) h1, h2⟩
    have new : ObjOk X.prog X.w (upd H T (.tup [w1, w2])) h'' T (.tup [w1, w2]) :=
      ⟨by show 2 ≤ sizeLine; rw [sizeLine_eq]; decide, [x1, x2], .cons b1 (.cons b2 .nil), hT2⟩
    have I1 : Inv X pins σ (upd H T (.tup [w1, w2])) { s with heap := h'', toks := tk } := I.turnedNew (t' := tk) (ch := [z, TI, TO, i1, i2]) hk2 hf hT0 new
    obtain ⟨z'', TI'', TO'', t1, t2⟩ := st''
    refine ⟨.ref T, _, I1, rfl, ⟨T, w1, w2, rfl, I.hok.fresh hT0, rfl, fun us hu => by rw [SK.inj I hu hv]; exact a1, fun us hu => by rw [SK.inj I hu hw']; exact a2⟩, ⟨z'', TI'', TO'', sI1 _ _ t1, sI2 _ _ t2⟩, fun b hb => ?_⟩
    have hb' : b < s.heap.objs.size := by
      have e' : b = z ∨ b = TI ∨ b = TO ∨ b = i1 ∨ b = i2 := by simpa using hb
      rcases e' with q | q | q | q | q
      · rw [q]; exact Heap.lt_size hz
      · rw [q]; exact Heap.lt_size hTI
      · rw [q]; exact Heap.lt_size hTO
      · rw [q]; obtain ⟨_, _, _, e1, _⟩ := q1.get; exact Heap.lt_size e1
      · rw [q]; obtain ⟨_, _, _, e1, _⟩ := q2.get; exact Heap.lt_size e1
    rw [upd_ne (Nat.ne_of_lt (Nat.lt_of_lt_of_le hb' hT0))]
    exact (hf b hb).1
  done := by
    intro X hP hw hK hc i pins s σ H E I hf st hg
    subst hP hw hK
    obtain ⟨hz, hTI, ⟨x0, y0, hTO⟩, q1, q2⟩ := st
    obtain ⟨vs, ws, hv, hw', rfl⟩ := hg
    obtain ⟨S1, D1, s1, sI1⟩ := SK.draw X.A.in1 (I.ok.hd hc) I hv q1
    obtain ⟨S2, D2, s2, sI2⟩ := SK.draw X.A.in1 (I.ok.hd hc) I hw' q2
    have nin : ∀ {b : Addr} {k : SK} {it : Addr} {us : List V}, k.Is X.K H us → b ∈ [z, TI, TO, i1, i2] → b ≠ it → b ∉ it :: k.cells := fun hu hb ne q => (List.mem_cons.mp q).elim ne (SK.apart I hu (hf _ hb))
    have Sp : ZipSep2 z TI TO i1 i2 (i1 :: k1.cells) (i2 :: k2.cells) :=
      { TIz := D.TIz, TOz := D.TOz, TITO := D.TITO, TIi1 := D.TIi1, mem1 := List.mem_cons_self .., zf1 := nin hv (by simp) D.z1, Tf1 := nin hv (by simp) D.T1, TIi2 := D.TIi2, mem2 := List.mem_cons_self ..,
        zf2 := nin hw' (by simp) D.z2, Tf2 := nin hw' (by simp) D.T2, sep1_2 := nin hw' (by simp) D.i12, sep2_1 := nin hv (by simp) D.i12.symm }
    exact (WalksT.zipD2 Sp D1 D2).done s _ _ ⟨hz, hTI, ⟨_, _, hTO⟩, s1, s2⟩ fun h' tk hk => ⟨rfl, I.turnedL (t' := tk) (ch := [z, TI, TO, i1, i2]) (fun b o hb q =>
      have hb' : b ∉ [z, TO, i1, i2] := fun q => hb (by simp at q ⊢; rcases q with q | q | q | q <;> simp [q])
      hk b o hb' q) hf⟩
  self := fun A i s Q E st h => wpAny_pyIter_zip st.1 h
theorem ap2 (N : Nat) : Ap2 (N + 4) (N + 2) (N + 3) N (N + 1) := by
  constructor <;> (show (_ : Nat) ≠ _; omega)
section
variable {X : Cx}
def iZipG (K : PySem.W.Frag) (ta : TA) : TI := fun σ H R => ta σ H fun vs H1 => ∃ w u, vs = [w, u] ∧ SkV K H1 w fun k => SkV K H1 u fun l => R (JZ K k l) H1
theorem pi_zipG {e e2 : Expr} {ta : TA} {p pos tpos : Pos} {elts : List Expr} {kk : Nat} (hg : Gl X "zip") (hm : X.mg "zip" = none) (ha : PA X [e, e2] ta)
    (hs : starEach [e, e2] X.env = (false, eval e X.env) :: starEach [e2] X.env) (hpl : (backTo pos (starEach [e2] X.env)).any (·.1) = false) :
    PI X (.Tuple elts kk tpos) (.Call (.Name "zip" p) [e, e2] [] pos) (iZipG X.K ta) := by
  refine ⟨fun pins s σ H R I h => ?_⟩
  refine Call_ (ld_blt I hg hm PyProof.Rows.boot_zip (PyProof.Rows.callWith_type1 (thn (ha.run pos pins s σ H _ I h) fun us s1 ⟨vs, H1, I1, r1, q1⟩ => ?_) hs hpl))
  obtain ⟨w, u, ex, q⟩ := q1
  subst ex
  obtain ⟨u1, u2, rfl, r, r'⟩ := vals2 r1
  obtain ⟨k, rfl, q2, ws, hk⟩ := skv_of r q
  obtain ⟨l, rfl, q3, us, hl⟩ := skv_of r' q2
  obtain ⟨C, B, hC⟩ := SK.begins I1 hk
  obtain ⟨C2, B2, hC2⟩ := SK.begins I1 hl
  refine zip_begins2 B B2 hC hC2 fun h' hz hTI hTO h1 h2 hsz hkp => wpAny_pyIter_zip hz ?_
  have I2 : Inv X pins σ H1 { s1 with heap := h' } := I1.kept (t' := s1.toks) hkp
  refine ⟨s1.heap.objs.size + 4, [s1.heap.objs.size + 4, s1.heap.objs.size + 2, s1.heap.objs.size + 3, s1.heap.objs.size, s1.heap.objs.size + 1], _, _, H1, rfl, I2, turn_zipG k l (ap2 _), ⟨hz, hTI, ⟨_, _, hTO⟩, SK.It.of_obj h1, SK.It.of_obj h2⟩, fun c hcm => ?_, q3⟩
  have e' : c = s1.heap.objs.size + 4 ∨ c = s1.heap.objs.size + 2 ∨ c = s1.heap.objs.size + 3 ∨ c = s1.heap.objs.size ∨ c = s1.heap.objs.size + 1 := by simpa using hcm
  refine fresh_fp I1 ?_
  rcases e' with z | z | z | z | z
  · rw [z]; exact Nat.le_add_right _ _
  · rw [z]; exact Nat.le_add_right _ _
  · rw [z]; exact Nat.le_add_right _ _
  · rw [z]; exact Nat.le_refl _
  · rw [z]; exact Nat.le_add_right _ _
end
end G

namespace G
open PySem PySem.Spec PyProof.Rows L2
variable [tb : Tb]

abbrev Zat (h : Heap) (z TI TO : Addr) (f0 : Value) (f1 : Bool) : Prop :=
  h.get? z = some { cls := .type "zip", dict := none, data := .fields #[f0, .bool f1, .bool false, .ref TI, .ref TO], slots := #[] }
def f0Ok (f0 : Value) : Prop := f0 = .none ∨ ∃ T : Addr, f0 = rawInt T
section
variable {prog : Program} {w : World} {A : Around} {E : Value → Shared → Prop} {s : Shared} {z TI TO i1 i2 : Addr} {fp1 fp2 : List Addr} {n1 n2 i : Nat} {P1 P2 : Nat → Value → Prop} {St1 St2 : Nat → Heap → Prop} {a1 a2 : Value} {f0 : Value} {f1 : Bool}
theorem zs_free {Q : Bool → Shared → Prop} (hz : Zat s.heap z TI TO f0 f1) (h0 : f0Ok f0) (ht : Q true s) (hf : ∀ h' f1', Zat h' z TI TO f0 f1' → Heap.SameBut z s.heap h' → Q false { s with heap := h' }) :
    wpAny (model prog w) A (Builtin.SmallTypes.ownedTupleIsFree (.ref z)) Q E s := by
  unfold Builtin.SmallTypes.ownedTupleIsFree
  refine wpAny_bind (wpAny_field hz rfl (x := f0) rfl ?_)
  rcases h0 with rfl | ⟨T, rfl⟩
  · exact wpAny_pure ht
  · show wpAny _ _ (loadIfAlive ((T : Int).toNat) >>= _) _ _ _
    rw [Int.toNat_natCast]
    have key : ∀ o : Option Obj, s.heap.get? T = o → wpAny (model prog w) A (do
        if o.isNone then return true
        if (← field (.ref z) 1) != .bool true then setField (.ref z) 1 (.bool true)
        return false) Q E s := fun o e => by
      cases o with
      | none => exact wpAny_pure ht
      | some o =>
        show wpAny _ _ (field (.ref z) 1 >>= _) _ _ _
        refine wpAny_bind (wpAny_field hz rfl (x := .bool f1) rfl ?_)
        cases f1 with
        | true =>
          rw [if_neg (show ¬ ((Value.bool true != Value.bool true) = true) from Bool.false_ne_true)]
          exact wpAny_pure (hf s.heap true hz (Heap.SameBut.refl _ _))
        | false =>
          rw [if_pos (show (Value.bool false != Value.bool true) = true from rfl)]
          exact wpAny_bind (wpAny_setField_rec hz (by simp) fun h₁ hz₁ hs₁ => wpAny_pure (hf h₁ true hz₁ hs₁))
    have ld : ∀ {Q' : Option Obj → Shared → Prop}, Q' (s.heap.get? T) s → wpAny (model prog w) A (loadIfAlive T) Q' E s := fun h _ _ _ => h
    exact wpAny_bind (ld (key _ rfl))
/-- the next pair: a new tuple, whatever became of the last one -/
theorem zk_item {Q : Value → Shared → Prop} (S : ZipSep2 z TI TO i1 i2 fp1 fp2) (D1 : Draws prog w A i1 fp1 n1 P1 St1) (D2 : Draws prog w A i2 fp2 n2 P2 St2)
    (hz : Zat s.heap z TI TO f0 f1) (h0 : f0Ok f0) (hTI : IsTupOf2 s.heap TI (.ref i1) (.ref i2)) (hTO : IsTupOf2 s.heap TO a1 a2) (st1 : St1 i s.heap) (st2 : St2 i s.heap) (hlt1 : i < n1) (hlt2 : i < n2)
    (hQ : ∀ x1 x2 h' tk g0 g1 b1 b2, P1 i x1 → P2 i x2 → Zat h' z TI TO g0 g1 → f0Ok g0 → IsTupOf2 h' TO b1 b2 → St1 (i + 1) h' → St2 (i + 1) h' → IsTupOf2 h' s.heap.objs.size x1 x2 → h'.objs.size = s.heap.objs.size + 1 →
      (∀ c o, c ≠ z → c ≠ TO → c ≠ i1 → c ≠ i2 → s.heap.get? c = some o → h'.get? c = some o) → Q (.ref s.heap.objs.size) { s with heap := h', toks := tk }) :
    wpAny (model prog w) A (Builtin.«zip.__next__» ⟨[.ref z], []⟩) (fun fin s' => ∃ v, fin = .done (.ret v) ∧ Q v s') E s := by
  obtain ⟨hp, g, d, tk0, os⟩ := s
  show wpAny _ _ (field (.ref z) 2 >>= _) _ _ _
  refine wpAny_bind (wpAny_field hz rfl (x := .bool false) rfl ?_)
  show wpAny _ _ (field (.ref z) 3 >>= _) _ _ _
  refine wpAny_bind (wpAny_field hz rfl (x := .ref TI) rfl ?_)
  refine wpAny_bind (wpAny_seqItems hTI rfl ?_)
  show wpAny _ _ (Builtin.SmallTypes.ownedTupleIsFree (.ref z) >>= _) _ _ _
  refine wpAny_bind (zs_free hz h0 ?_ fun g0 e1 hz0 hs0 => ?_)
  · -- the old tuple again
    simp only [if_true]
    refine wpAny_bind (wpAny_rule ?_)
    refine wpAny_bind (wpAny_field hz rfl (x := .ref TO) rfl ?_)
    refine wpAny_bind (wpAny_setField_rec hz (by simp) fun g0 hz0 hs0 => ?_)
    replace hz0 : Zat g0 z TI TO .ellipsis f1 := hz0
    replace hs0 : Heap.SameBut z hp g0 := hs0
    refine wpAny_bind ?_
    simp only [List.zipIdx_cons, List.zipIdx_nil, List.forIn_cons, List.forIn_nil]
    refine wpAny_bind (wpAny_bind (wpAny_onRaise ?_))
    show wpAny _ _ (Builtin.SmallTypes.nextOf (.ref i1) >>= _) _ _ ⟨g0, g, d, tk0, os⟩
    refine wpAny_bind (D1.item i _ _ _ hlt1 (D1.over st1 hs0 S.zf1) fun x1 p1 tk1 hx1 sn1 hp1 => wpAny_pure ?_)
    replace hp1 : Heap.SameBut i1 g0 p1 := hp1
    have hU1 : IsTupOf2 p1 TO a1 a2 := hp1.extBut _ _ S.Ti1 (hs0.extBut _ _ S.TOz hTO)
    refine wpAny_bind (wpAny_seqItems (s := ⟨p1, g, d, tk1, os⟩) hU1 rfl ?_)
    refine wpAny_bind (updateSeq_IsTupOf2 (s := ⟨p1, g, d, tk1, os⟩) hU1 fun g1 hT1 hs1 => ?_)
    replace hT1 : IsTupOf2 g1 TO x1 a2 := hT1
    replace hs1 : Heap.SameBut TO p1 g1 := hs1
    refine wpAny_bind (wpAny_letGo (wpAny_pure ?_))
    refine wpAny_bind (wpAny_bind (wpAny_onRaise ?_))
    show wpAny _ _ (Builtin.SmallTypes.nextOf (.ref i2) >>= _) _ _ ⟨g1, g, d, tk1, os⟩
    refine wpAny_bind (D2.item i _ _ _ hlt2 (D2.over (D2.over (D2.over st2 hs0 S.zf2) hp1 S.sep1_2) hs1 S.Tf2) fun x2 p2 tk2 hx2 sn2 hp2 => wpAny_pure ?_)
    replace hp2 : Heap.SameBut i2 g1 p2 := hp2
    have hU2 : IsTupOf2 p2 TO x1 a2 := hp2.extBut _ _ S.Ti2 hT1
    refine wpAny_bind (wpAny_seqItems (s := ⟨p2, g, d, tk2, os⟩) hU2 rfl ?_)
    refine wpAny_bind (updateSeq_IsTupOf2 (s := ⟨p2, g, d, tk2, os⟩) hU2 fun g2 hT2 hs2 => ?_)
    replace hT2 : IsTupOf2 g2 TO x1 x2 := hT2
    replace hs2 : Heap.SameBut TO p2 g2 := hs2
    refine wpAny_bind (wpAny_letGo (wpAny_pure (wpAny_pure ?_)))
    refine wpAny_bind (wpAny_seqItems (s := ⟨g2, g, d, tk2, os⟩) hT2 rfl ?_)
    refine wpAny_bind (wpAny_newTuple ?_)
    have hsz : g2.objs.size = hp.objs.size := by rw [hs2.1, hp2.1, hs1.1, hp1.1, hs0.1]
    have hzz : Zat g2 z TI TO .ellipsis f1 := (hs2.extBut _ _ S.TOz.symm (hp2.extBut _ _ S.zi2 (hs1.extBut _ _ S.TOz.symm (hp1.extBut _ _ S.zi1 hz0))))
    have hkk : ∀ c o, c ≠ z → c ≠ TO → c ≠ i1 → c ≠ i2 → hp.get? c = some o → g2.get? c = some o := fun c o cz cT c1 c2 e =>
      (hs2.extBut _ _ cT (hp2.extBut _ _ c2 (hs1.extBut _ _ cT (hp1.extBut _ _ c1 (hs0.extBut _ _ cz e)))))
    have hj1 : St1 (i + 1) g2 := (D1.over (D1.over (D1.over sn1 hs1 S.Tf1) hp2 S.sep2_1) hs2 S.Tf1)
    have hj2 : St2 (i + 1) g2 := (D2.over sn2 hs2 S.Tf2)
    have hzlt : z < g2.objs.size := Heap.lt_size hzz
    show wpAny _ _ (Builtin.SmallTypes.ownedTupleHandOut (.ref z) (.ref g2.objs.size) >>= _) _ _ ⟨g2.push { cls := .type "tuple", data := .seq #[x1, x2] }, g, d, tk2, os⟩
    refine wpAny_bind ?_
    unfold Builtin.SmallTypes.ownedTupleHandOut
    have hz₆ : Zat (g2.push { cls := .type "tuple", data := .seq #[x1, x2] }) z TI TO .ellipsis f1 := Heap.get?_push_of_some _ hzz
    refine wpAny_bind (wpAny_setField_rec hz₆ (by simp) fun h₇ hz₇ hs₇ => ?_)
    replace hz₇ : Zat h₇ z TI TO (rawInt g2.objs.size) f1 := hz₇
    refine wpAny_setField_rec hz₇ (by simp) fun h₈ hz₈ hs₈ => ?_
    replace hz₈ : Zat h₈ z TI TO (rawInt g2.objs.size) false := hz₈
    replace hs₇ : Heap.SameBut z (g2.push { cls := .type "tuple", data := .seq #[x1, x2] }) h₇ := hs₇
    replace hs₈ : Heap.SameBut z h₇ h₈ := hs₈
    have up : ∀ c o, c ≠ z → g2.get? c = some o → h₈.get? c = some o := fun c o c1 e => hs₈.extBut _ _ c1 (hs₇.extBut _ _ c1 (Heap.get?_push_of_some _ e))
    have hT₈ : IsTupOf2 h₈ g2.objs.size x1 x2 := hs₈.extBut _ _ (Nat.ne_of_gt hzlt) (hs₇.extBut _ _ (Nat.ne_of_gt hzlt) (Heap.get?_push_size _ rfl))
    have hz8 : h₈.objs.size = g2.objs.size + 1 := by rw [hs₈.1, hs₇.1, Heap.size_push]
    refine wpAny_pure ⟨_, rfl, ?_⟩
    show Q (.ref g2.objs.size) ⟨h₈, g, d, tk2, os⟩
    rw [hsz] at hz₈ hT₈ hz8 ⊢
    exact hQ x1 x2 h₈ tk2 _ _ _ _ hx1 hx2 hz₈ (.inr ⟨_, rfl⟩) (up _ _ S.TOz hT2) (D1.frame _ _ _ hj1 fun b hb o e => up b o (fun q => S.zf1 (q ▸ hb)) e) (D2.frame _ _ _ hj2 fun b hb o e => up b o (fun q => S.zf2 (q ▸ hb)) e) hT₈ hz8 fun c o cz cT c1 c2 e => up c o cz (hkk c o cz cT c1 c2 e)
  · -- a tuple of its own
    replace hs0 : Heap.SameBut z hp g0 := hs0
    simp only [Bool.false_eq_true, if_false]
    refine wpAny_bind ?_
    rw [← Array.forIn_toList]
    simp only [List.forIn_cons, List.forIn_nil]
    refine wpAny_bind (wpAny_bind (wpAny_holding ?_))
    show wpAny _ _ (Builtin.SmallTypes.nextOf (.ref i1) >>= _) _ _ ⟨g0, g, d, tk0, os⟩
    refine wpAny_bind (D1.item i _ _ _ hlt1 (D1.over st1 hs0 S.zf1) fun x1 p1 tk1 hx1 sn1 hp1 => wpAny_pure ?_)
    replace hp1 : Heap.SameBut i1 g0 p1 := hp1
    refine wpAny_pure ?_
    refine wpAny_bind (wpAny_bind (wpAny_holding ?_))
    show wpAny _ _ (Builtin.SmallTypes.nextOf (.ref i2) >>= _) _ _ ⟨p1, g, d, tk1, os⟩
    refine wpAny_bind (D2.item i _ _ _ hlt2 (D2.over (D2.over st2 hs0 S.zf2) hp1 S.sep1_2) fun x2 p2 tk2 hx2 sn2 hp2 => wpAny_pure ?_)
    replace hp2 : Heap.SameBut i2 p1 p2 := hp2
    refine wpAny_pure (wpAny_pure ?_)
    show wpAny _ _ (newTuple [x1, x2] >>= _) _ _ ⟨p2, g, d, tk2, os⟩
    refine wpAny_bind (wpAny_newTuple ?_)
    have hsz : p2.objs.size = hp.objs.size := by rw [hp2.1, hp1.1, hs0.1]
    have hzz : Zat p2 z TI TO f0 e1 := hp2.extBut _ _ S.zi2 (hp1.extBut _ _ S.zi1 hz0)
    have hTO2 : IsTupOf2 p2 TO a1 a2 := hp2.extBut _ _ S.Ti2 (hp1.extBut _ _ S.Ti1 (hs0.extBut _ _ S.TOz hTO))
    have hj1 : St1 (i + 1) p2 := D1.over sn1 hp2 S.sep2_1
    refine wpAny_pure ⟨_, rfl, ?_⟩
    show Q (.ref p2.objs.size) ⟨p2.push { cls := .type "tuple", data := .seq #[x1, x2] }, g, d, tk2, os⟩
    have hT : IsTupOf2 (p2.push { cls := .type "tuple", data := .seq #[x1, x2] }) p2.objs.size x1 x2 := Heap.get?_push_size _ rfl
    have hz4 : (p2.push { cls := .type "tuple", data := .seq #[x1, x2] }).objs.size = p2.objs.size + 1 := Heap.size_push ..
    rw [hsz] at hT hz4 ⊢
    exact hQ x1 x2 _ tk2 _ _ _ _ hx1 hx2 (Heap.get?_push_of_some _ hzz) h0 (Heap.get?_push_of_some _ hTO2) (D1.frame _ _ _ hj1 fun b hb o e => Heap.get?_push_of_some _ e) (D2.frame _ _ _ sn2 fun b hb o e => Heap.get?_push_of_some _ e) hT hz4
      fun c o cz cT c1 c2 e => Heap.get?_push_of_some _ (hp2.extBut _ _ c2 (hp1.extBut _ _ c1 (hs0.extBut _ _ cz e)))

theorem zk_end {Q : Fin → Shared → Prop} (S : ZipSep2 z TI TO i1 i2 fp1 fp2) (D1 : Draws prog w A i1 fp1 n1 P1 St1) (D2 : Draws prog w A i2 fp2 n2 P2 St2)
    (hz : Zat s.heap z TI TO f0 f1) (h0 : f0Ok f0) (hTI : IsTupOf2 s.heap TI (.ref i1) (.ref i2)) (hTO : IsTupOf2 s.heap TO a1 a2) (st1 : St1 i s.heap) (st2 : St2 i s.heap) (hle1 : i ≤ n1) (hle2 : i ≤ n2) (hend : i = n1 ∨ i = n2)
    (hE : ∀ h' tk e, (∀ c o, c ≠ z → c ≠ TO → c ≠ i1 → c ≠ i2 → s.heap.get? c = some o → h'.get? c = some o) → (∃ o, h'.get? e = some o ∧ o.cls = .type "StopIteration") → E (.ref e) { s with heap := h', toks := tk }) :
    wpAny (model prog w) A (Builtin.«zip.__next__» ⟨[.ref z], []⟩) Q E s := by
  obtain ⟨hp, g, d, tk0, os⟩ := s
  show wpAny _ _ (field (.ref z) 2 >>= _) _ _ _
  refine wpAny_bind (wpAny_field hz rfl (x := .bool false) rfl ?_)
  show wpAny _ _ (field (.ref z) 3 >>= _) _ _ _
  refine wpAny_bind (wpAny_field hz rfl (x := .ref TI) rfl ?_)
  refine wpAny_bind (wpAny_seqItems hTI rfl ?_)
  show wpAny _ _ (Builtin.SmallTypes.ownedTupleIsFree (.ref z) >>= _) _ _ _
  refine wpAny_bind (zs_free hz h0 ?_ fun g0 e1 hz0 hs0 => ?_)
  · simp only [if_true]
    refine wpAny_bind (wpAny_rule ?_)
    refine wpAny_bind (wpAny_field hz rfl (x := .ref TO) rfl ?_)
    refine wpAny_bind (wpAny_setField_rec hz (by simp) fun g0 hz0 hs0 => ?_)
    replace hz0 : Zat g0 z TI TO .ellipsis f1 := hz0
    replace hs0 : Heap.SameBut z hp g0 := hs0
    refine wpAny_bind ?_
    simp only [List.zipIdx_cons, List.zipIdx_nil, List.forIn_cons, List.forIn_nil]
    refine wpAny_bind (wpAny_bind (wpAny_onRaise ?_))
    show wpAny _ _ (Builtin.SmallTypes.nextOf (.ref i1) >>= _) _ _ ⟨g0, g, d, tk0, os⟩
    by_cases hlt1 : i < n1
    · refine wpAny_bind (D1.item i _ _ _ hlt1 (D1.over st1 hs0 S.zf1) fun x1 p1 tk1 hx1 sn1 hp1 => wpAny_pure ?_)
      replace hp1 : Heap.SameBut i1 g0 p1 := hp1
      have hU1 : IsTupOf2 p1 TO a1 a2 := hp1.extBut _ _ S.Ti1 (hs0.extBut _ _ S.TOz hTO)
      refine wpAny_bind (wpAny_seqItems (s := ⟨p1, g, d, tk1, os⟩) hU1 rfl ?_)
      refine wpAny_bind (updateSeq_IsTupOf2 (s := ⟨p1, g, d, tk1, os⟩) hU1 fun g1 hT1 hs1 => ?_)
      replace hT1 : IsTupOf2 g1 TO x1 a2 := hT1
      replace hs1 : Heap.SameBut TO p1 g1 := hs1
      refine wpAny_bind (wpAny_letGo (wpAny_pure ?_))
      have hi2 : i = n2 := by omega
      refine wpAny_bind (wpAny_bind (wpAny_onRaise ?_))
      show wpAny _ _ (Builtin.SmallTypes.nextOf (.ref i2) >>= _) _ _ ⟨g1, g, d, tk1, os⟩
      refine wpAny_bind (D2.done ⟨g1, g, d, tk1, os⟩ _ _ (by rw [← hi2]; exact (D2.over (D2.over (D2.over st2 hs0 S.zf2) hp1 S.sep1_2) hs1 S.Tf2)) fun q e hq he => ?_)
      replace hq : Heap.ExtBut i2 g1 q := hq
      obtain ⟨oe, hoe, hce⟩ := he
      replace hoe : q.get? e = some oe := hoe
      have hzq : Zat q z TI TO .ellipsis f1 := hq _ _ S.zi2 (hs1.extBut _ _ S.TOz.symm (hp1.extBut _ _ S.zi1 hz0))
      have hez : e ≠ z := fun x => by subst x; rw [hzq] at hoe; cases hoe; simp at hce
      refine wpAny_setField_rec (s := ⟨q, g, d, tk1, os⟩) hzq (by simp) fun q' _ hq' => ?_
      replace hq' : Heap.SameBut z q q' := hq'
      exact hE q' tk1 e (fun c o cz cT c1 c2 x => hq'.extBut _ _ cz (hq _ _ c2 (hs1.extBut _ _ cT (hp1.extBut _ _ c1 (hs0.extBut _ _ cz x))))) ⟨oe, hq'.extBut _ _ hez hoe, hce⟩
    · have hi1 : i = n1 := by omega
      refine wpAny_bind (D1.done ⟨g0, g, d, tk0, os⟩ _ _ (by rw [← hi1]; exact (D1.over st1 hs0 S.zf1)) fun q e hq he => ?_)
      replace hq : Heap.ExtBut i1 g0 q := hq
      obtain ⟨oe, hoe, hce⟩ := he
      replace hoe : q.get? e = some oe := hoe
      have hzq : Zat q z TI TO .ellipsis f1 := hq _ _ S.zi1 hz0
      have hez : e ≠ z := fun x => by subst x; rw [hzq] at hoe; cases hoe; simp at hce
      refine wpAny_setField_rec (s := ⟨q, g, d, tk0, os⟩) hzq (by simp) fun q' _ hq' => ?_
      replace hq' : Heap.SameBut z q q' := hq'
      exact hE q' tk0 e (fun c o cz cT c1 c2 x => hq'.extBut _ _ cz (hq _ _ c1 (hs0.extBut _ _ cz x))) ⟨oe, hq'.extBut _ _ hez hoe, hce⟩
  · replace hs0 : Heap.SameBut z hp g0 := hs0
    simp only [Bool.false_eq_true, if_false]
    refine wpAny_bind ?_
    rw [← Array.forIn_toList]
    simp only [List.forIn_cons, List.forIn_nil]
    refine wpAny_bind (wpAny_bind (wpAny_holding ?_))
    show wpAny _ _ (Builtin.SmallTypes.nextOf (.ref i1) >>= _) _ _ ⟨g0, g, d, tk0, os⟩
    by_cases hlt1 : i < n1
    · refine wpAny_bind (D1.item i _ _ _ hlt1 (D1.over st1 hs0 S.zf1) fun x1 p1 tk1 hx1 sn1 hp1 => wpAny_pure ?_)
      replace hp1 : Heap.SameBut i1 g0 p1 := hp1
      refine wpAny_pure ?_
      have hi2 : i = n2 := by omega
      refine wpAny_bind (wpAny_bind (wpAny_holding ?_))
      show wpAny _ _ (Builtin.SmallTypes.nextOf (.ref i2) >>= _) _ _ ⟨p1, g, d, tk1, os⟩
      refine wpAny_bind (D2.done ⟨p1, g, d, tk1, os⟩ _ _ (by rw [← hi2]; exact (D2.over (D2.over st2 hs0 S.zf2) hp1 S.sep1_2)) fun q e hq he => ?_)
      replace hq : Heap.ExtBut i2 p1 q := hq
      exact hE q tk1 e (fun c o cz cT c1 c2 x => hq _ _ c2 (hp1.extBut _ _ c1 (hs0.extBut _ _ cz x))) he
    · have hi1 : i = n1 := by omega
      refine wpAny_bind (D1.done ⟨g0, g, d, tk0, os⟩ _ _ (by rw [← hi1]; exact (D1.over st1 hs0 S.zf1)) fun q e hq he => ?_)
      replace hq : Heap.ExtBut i1 g0 q := hq
      exact hE q tk0 e (fun c o cz cT c1 c2 x => hq _ _ c1 (hs0.extBut _ _ cz x)) he

theorem nz_item {Q : Value → Shared → Prop} (S : ZipSep2 z TI TO i1 i2 fp1 fp2) (D1 : Draws prog w A.in1 i1 fp1 n1 P1 St1) (D2 : Draws prog w A.in1 i2 fp2 n2 P2 St2)
    (hz : Zat s.heap z TI TO f0 f1) (h0 : f0Ok f0) (hTI : IsTupOf2 s.heap TI (.ref i1) (.ref i2)) (hTO : IsTupOf2 s.heap TO a1 a2) (st1 : St1 i s.heap) (st2 : St2 i s.heap) (hlt1 : i < n1) (hlt2 : i < n2)
    (hQ : ∀ x1 x2 h' tk g0 g1 b1 b2, P1 i x1 → P2 i x2 → Zat h' z TI TO g0 g1 → f0Ok g0 → IsTupOf2 h' TO b1 b2 → St1 (i + 1) h' → St2 (i + 1) h' → IsTupOf2 h' s.heap.objs.size x1 x2 → h'.objs.size = s.heap.objs.size + 1 →
      (∀ c o, c ≠ z → c ≠ TO → c ≠ i1 → c ≠ i2 → s.heap.get? c = some o → h'.get? c = some o) → Q (.ref s.heap.objs.size) { s with heap := h', toks := tk }) :
    wpAny (model prog w) A (Builtin.SmallTypes.nextOf (.ref z)) Q E s := by
  have hT : s.TypeIs (.ref z) "zip" := ⟨_, hz, rfl⟩
  unfold Builtin.SmallTypes.nextOf
  exact wpAny_bind (wpAny_callSpecial?_slot (name := Str.ofString "__next__") hT F.slot_zip_next (wpAny_call_entry F.slot_zip_next hT F.entry_zip_next
    (zk_item S D1 D2 hz h0 hTI hTO st1 st2 hlt1 hlt2 fun x1 x2 h' tk g0 g1 b1 b2 p1 p2 q1 q2 q3 q4 q5 q6 q7 q8 => wpAny_pure (hQ x1 x2 h' tk g0 g1 b1 b2 p1 p2 q1 q2 q3 q4 q5 q6 q7 q8)) (F.args_zip_next_1 _)))
theorem nz_end {Q : Value → Shared → Prop} (S : ZipSep2 z TI TO i1 i2 fp1 fp2) (D1 : Draws prog w A.in1 i1 fp1 n1 P1 St1) (D2 : Draws prog w A.in1 i2 fp2 n2 P2 St2)
    (hz : Zat s.heap z TI TO f0 f1) (h0 : f0Ok f0) (hTI : IsTupOf2 s.heap TI (.ref i1) (.ref i2)) (hTO : IsTupOf2 s.heap TO a1 a2) (st1 : St1 i s.heap) (st2 : St2 i s.heap) (hle1 : i ≤ n1) (hle2 : i ≤ n2) (hend : i = n1 ∨ i = n2)
    (hE : ∀ h' tk e, (∀ c o, c ≠ z → c ≠ TO → c ≠ i1 → c ≠ i2 → s.heap.get? c = some o → h'.get? c = some o) → (∃ o, h'.get? e = some o ∧ o.cls = .type "StopIteration") → E (.ref e) { s with heap := h', toks := tk }) :
    wpAny (model prog w) A (Builtin.SmallTypes.nextOf (.ref z)) Q E s := by
  have hT : s.TypeIs (.ref z) "zip" := ⟨_, hz, rfl⟩
  unfold Builtin.SmallTypes.nextOf
  exact wpAny_bind (wpAny_callSpecial?_slot (name := Str.ofString "__next__") hT F.slot_zip_next (wpAny_call_entry F.slot_zip_next hT F.entry_zip_next
    (zk_end S D1 D2 hz h0 hTI hTO st1 st2 hle1 hle2 hend hE) (F.args_zip_next_1 _)))
/-- behind the inner item: enumerate's own steps, from the heap that the item left -/
theorem en_tail {e it : Addr} {c : Int} {old x : Value} {Q : Value → Shared → Prop} (he : IsEnum s.heap e it c old)
    (hQ : ∀ h' tk, IsEnumOut h' e it (c + 1) x s.heap.objs.size → h'.get? s.heap.objs.size = some { cls := .type "tuple", data := .seq #[.int c tk, x] } → h'.objs.size = s.heap.objs.size + 1 →
      (∀ b o, b ≠ e → s.heap.get? b = some o → h'.get? b = some o) → Q (.ref s.heap.objs.size) { s with heap := h', toks := tk + 1 }) :
    wpAny (model prog w) A (do
      let .int i _ ← field (.ref e) 3 | unsupported "internal:enumerate.__next__"
      let given ← field (.ref e) 4
      let index ← if given == .none then mkInt i else pure given
      setField (.ref e) 3 (rawInt (i + 1)); setField (.ref e) 4 .none
      let result ← newTuple [index, x]
      if ← Builtin.SmallTypes.ownedTupleIsFree (.ref e) then
        rule "enumerate.__next__.owned-tuple-again"
        let old ← field (.ref e) 5
        setField (.ref e) 5 x
        Builtin.SmallTypes.ownedTupleHandOut (.ref e) result
        letGo [old] [result]
      ret result) (fun fin s' => ∃ v, fin = .done (.ret v) ∧ Q v s') E s := by
  obtain ⟨h₁, g, d, tk, os⟩ := s
  replace he : IsEnum h₁ e it c old := he
  refine wpAny_bind (wpAny_field he rfl (x := rawInt c) rfl ?_)
  show wpAny _ _ (field (.ref e) 4 >>= _) _ _ ⟨h₁, g, d, tk, os⟩
  refine wpAny_bind (wpAny_field he rfl (x := .none) rfl ?_)
  show wpAny _ _ (mkInt c >>= _) _ _ ⟨h₁, g, d, tk, os⟩
  refine wpAny_bind (wpAny_mkInt ?_)
  show wpAny _ _ (setField (.ref e) 3 (rawInt (c + 1)) >>= _) _ _ ⟨h₁, g, d, tk + 1, os⟩
  refine wpAny_bind (wpAny_setField_rec he (by simp) fun h₂ he₂ hs₂ => ?_)
  replace hs₂ : Heap.SameBut e h₁ h₂ := hs₂
  replace he₂ : IsEnum h₂ e it (c + 1) old := he₂
  show wpAny _ _ (setField (.ref e) 4 .none >>= _) _ _ ⟨h₂, g, d, tk + 1, os⟩
  refine wpAny_bind (wpAny_setField_rec he₂ (by simp) fun h₃ he₃ hs₃ => ?_)
  replace hs₃ : Heap.SameBut e h₂ h₃ := hs₃
  replace he₃ : IsEnum h₃ e it (c + 1) old := he₃
  show wpAny _ _ (newTuple [.int c tk, x] >>= _) _ _ ⟨h₃, g, d, tk + 1, os⟩
  refine wpAny_bind (wpAny_newTuple ?_)
  have he₄ : IsEnum (h₃.push { cls := .type "tuple", data := .seq #[.int c tk, x] }) e it (c + 1) old := Heap.get?_push_of_some _ he₃
  generalize hh₄ : h₃.push { cls := .type "tuple", data := .seq #[.int c tk, x] } = h₄ at he₄
  have hsz : h₃.objs.size = h₁.objs.size := by rw [hs₃.1, hs₂.1]
  have hel : e < h₁.objs.size := Heap.lt_size he
  have ht₄ : h₄.get? h₁.objs.size = some { cls := .type "tuple", data := .seq #[.int c tk, x] } := by rw [← hh₄, ← hsz]; exact Heap.get?_push_size _ rfl
  have hz₄ : h₄.objs.size = h₁.objs.size + 1 := by rw [← hh₄, Heap.size_push, hsz]
  have hk₄ : ∀ b o, b ≠ e → h₁.get? b = some o → h₄.get? b = some o := fun b o hbe hb => by
    rw [← hh₄]; exact Heap.get?_push_of_some _ (hs₃.extBut b o hbe (hs₂.extBut b o hbe hb))
  show wpAny _ _ (Builtin.SmallTypes.ownedTupleIsFree (.ref e) >>= _) _ _ ⟨h₄, g, d, tk + 1, os⟩
  rw [hsz]
  clear hh₄ he₃ hs₃ he₂ hs₂ hsz h₃ h₂
  refine wpAny_bind ?_
  · unfold Builtin.SmallTypes.ownedTupleIsFree
    refine wpAny_bind (wpAny_field he₄ rfl (x := .none) rfl (wpAny_pure ?_))
    simp only [if_true]
    refine wpAny_bind (wpAny_rule ?_)
    refine wpAny_bind (wpAny_field he₄ rfl (x := old) rfl ?_)
    refine wpAny_bind (wpAny_setField_rec he₄ (by simp) fun h₅ he₅ hs₅ => ?_)
    replace hs₅ : Heap.SameBut e h₄ h₅ := hs₅
    replace he₅ : IsEnum h₅ e it (c + 1) x := he₅
    show wpAny _ _ (Builtin.SmallTypes.ownedTupleHandOut (.ref e) (.ref h₁.objs.size) >>= _) _ _ ⟨h₅, g, d, tk + 1, os⟩
    refine wpAny_bind ?_
    · unfold Builtin.SmallTypes.ownedTupleHandOut
      refine wpAny_bind (wpAny_setField_rec he₅ (by simp) fun h₆ he₆ hs₆ => ?_)
      replace hs₆ : Heap.SameBut e h₅ h₆ := hs₆
      replace he₆ : IsEnumOut h₆ e it (c + 1) x h₁.objs.size := he₆
      refine wpAny_setField_rec he₆ (by simp) fun h₇ he₇ hs₇ => ?_
      replace hs₇ : Heap.SameBut e h₆ h₇ := hs₇
      replace he₇ : IsEnumOut h₇ e it (c + 1) x h₁.objs.size := he₇
      refine wpAny_bind (wpAny_letGo (wpAny_pure ⟨_, rfl, hQ h₇ tk he₇ ?_ ?_ ?_⟩))
      · exact hs₇.extBut _ _ (Nat.ne_of_gt hel) (hs₆.extBut _ _ (Nat.ne_of_gt hel) (hs₅.extBut _ _ (Nat.ne_of_gt hel) ht₄))
      · rw [hs₇.1, hs₆.1, hs₅.1, hz₄]
      · exact fun b o hbe hb => hs₇.extBut b o hbe (hs₆.extBut b o hbe (hs₅.extBut b o hbe (hk₄ b o hbe hb)))

/-- the next of enumerate(zip(..)): first the pair at the heap p1, then the outer tuple -/
theorem ez_item {e : Addr} {c : Int} {old : Value} {Q : Option Value → Shared → Prop} (S : ZipSep2 z TI TO i1 i2 fp1 fp2) (D1 : Draws prog w A.in1.in1 i1 fp1 n1 P1 St1) (D2 : Draws prog w A.in1.in1 i2 fp2 n2 P2 St2) (he : IsEnum s.heap e z c old)
    (e0 : e ≠ z) (e1 : e ≠ TO) (e2 : e ≠ i1) (e3 : e ≠ i2)
    (hz : Zat s.heap z TI TO f0 f1) (h0 : f0Ok f0) (hTI : IsTupOf2 s.heap TI (.ref i1) (.ref i2)) (hTO : IsTupOf2 s.heap TO a1 a2) (st1 : St1 i s.heap) (st2 : St2 i s.heap) (hlt1 : i < n1) (hlt2 : i < n2)
    (hQ : ∀ x1 x2 p1 tk g0 g1 b1 b2 h' tk2, P1 i x1 → P2 i x2 → Zat p1 z TI TO g0 g1 → f0Ok g0 → IsTupOf2 p1 TO b1 b2 → St1 (i + 1) p1 → St2 (i + 1) p1 → IsTupOf2 p1 s.heap.objs.size x1 x2 → p1.objs.size = s.heap.objs.size + 1 →
      (∀ c o, c ≠ z → c ≠ TO → c ≠ i1 → c ≠ i2 → s.heap.get? c = some o → p1.get? c = some o) →
      IsEnumOut h' e z (c + 1) (.ref s.heap.objs.size) p1.objs.size → h'.get? p1.objs.size = some { cls := .type "tuple", data := .seq #[.int c tk, .ref s.heap.objs.size] } → h'.objs.size = p1.objs.size + 1 →
      (∀ b o, b ≠ e → p1.get? b = some o → h'.get? b = some o) → Q (some (.ref p1.objs.size)) { s with heap := h', toks := tk2 }) :
    wpAny (model prog w) A (pyNext (.ref e)) Q E s := by
  have hT : s.TypeIs (.ref e) "enumerate" := ⟨_, he, rfl⟩
  unfold pyNext
  refine wpAny_bind (wpAny_attempt (wpAny_callSpecial?_slot (name := Str.ofString "__next__") hT F.slot_enumerate_next
    (wpAny_call_entry F.slot_enumerate_next hT F.entry_enumerate_next ?_ (F.args_enumerate_next_1 _))))
  show wpAny _ _ (field (.ref e) 2 >>= _) _ _ _
  refine wpAny_bind (wpAny_field he rfl (x := .ref z) rfl ?_)
  refine wpAny_bind (nz_item S D1 D2 hz h0 hTI hTO st1 st2 hlt1 hlt2 fun x1 x2 p1 tk g0 g1 b1 b2 q1 q2 q3 q4 q5 q6 q7 q8 q9 q10 => ?_)
  have he1 : IsEnum p1 e z c old := q10 e _ e0 e1 e2 e3 he
  exact en_tail (s := { s with heap := p1, toks := tk }) he1 fun h' tk2 r1 r2 r3 r4 => wpAny_pure (hQ x1 x2 p1 tk2 g0 g1 b1 b2 h' _ q1 q2 q3 q4 q5 q6 q7 q8 q9 q10 r1 r2 r3 r4)
theorem ez_end {e : Addr} {c : Int} {old : Value} {Q : Option Value → Shared → Prop} (S : ZipSep2 z TI TO i1 i2 fp1 fp2) (D1 : Draws prog w A.in1.in1 i1 fp1 n1 P1 St1) (D2 : Draws prog w A.in1.in1 i2 fp2 n2 P2 St2) (he : IsEnum s.heap e z c old)
    (hz : Zat s.heap z TI TO f0 f1) (h0 : f0Ok f0) (hTI : IsTupOf2 s.heap TI (.ref i1) (.ref i2)) (hTO : IsTupOf2 s.heap TO a1 a2) (st1 : St1 i s.heap) (st2 : St2 i s.heap) (hle1 : i ≤ n1) (hle2 : i ≤ n2) (hend : i = n1 ∨ i = n2)
    (hQ : ∀ h' tk, (∀ c o, c ≠ z → c ≠ TO → c ≠ i1 → c ≠ i2 → s.heap.get? c = some o → h'.get? c = some o) → Q none { s with heap := h', toks := tk }) :
    wpAny (model prog w) A (pyNext (.ref e)) Q E s := by
  have hT : s.TypeIs (.ref e) "enumerate" := ⟨_, he, rfl⟩
  unfold pyNext
  refine wpAny_bind (wpAny_attempt (wpAny_callSpecial?_slot (name := Str.ofString "__next__") hT F.slot_enumerate_next
    (wpAny_call_entry F.slot_enumerate_next hT F.entry_enumerate_next ?_ (F.args_enumerate_next_1 _))))
  show wpAny _ _ (field (.ref e) 2 >>= _) _ _ _
  refine wpAny_bind (wpAny_field he rfl (x := .ref z) rfl ?_)
  refine wpAny_bind (nz_end S D1 D2 hz h0 hTI hTO st1 st2 hle1 hle2 hend fun h' tk x hk hx => ?_)
  obtain ⟨o, ho, hc⟩ := hx
  refine wpAny_bind (wpAny_isInstance (T := "StopIteration") (b := true) ⟨o, ho, hc⟩ isSubtype_stop ?_)
  exact wpAny_pure (hQ _ _ hk)
end

def JEZ (K : PySem.W.Frag) (k1 k2 : SK) : It :=
  ⟨fun i H => ∃ vs ws, k1.Is K H vs ∧ k2.Is K H ws ∧ i < min vs.length ws.length,
    fun i H v H' => ∃ T T1 x y, v = .ref T ∧ H T1 = none ∧ (upd H T1 (.tup [x, y])) T = none ∧ H' = upd (upd H T1 (.tup [x, y])) T (.tup [.int (i : Nat), .ref T1]) ∧ (∀ vs, k1.Is K H vs → vs[i]? = some x) ∧ ∀ vs, k2.Is K H vs → vs[i]? = some y,
    fun i H => ∃ vs ws, k1.Is K H vs ∧ k2.Is K H ws ∧ min vs.length ws.length = i⟩
theorem turn_ezG {P : Program} {w : World} {K : PySem.W.Frag} {elts : List Expr} {kk : Nat} {tpos : Pos} (k1 k2 : SK) {e z TI TO i1 i2 : Addr} (D : Ap2 z TI TO i1 i2) (e0 : e ≠ z) (eI : e ≠ TI) (eO : e ≠ TO) (e1 : e ≠ i1) (e2 : e ≠ i2) :
    Turn P w K (.Tuple elts kk tpos) (JEZ K k1 k2) [e, z, TI, TO, i1, i2] e (fun i h => (∃ old, IsEnum h e z ((0 : Int) + (i : Int)) old) ∧ (∃ f0 f1, Zat h z TI TO f0 f1 ∧ f0Ok f0) ∧ IsTupOf2 h TI (.ref i1) (.ref i2) ∧ (∃ x y, IsTupOf2 h TO x y) ∧ k1.It i1 i h ∧ k2.It i2 i h) where
  mem := by simp
  obj := fun i h st c hc => by
    obtain ⟨⟨old, he⟩, ⟨f0, f1, hz, _⟩, hTI, ⟨x, y, hTO⟩, q1, q2⟩ := st
    obtain ⟨o1, _, _, g1, _, d1⟩ := q1.get
    obtain ⟨o2, _, _, g2, _, d2⟩ := q2.get
    have e' : c = e ∨ c = z ∨ c = TI ∨ c = TO ∨ c = i1 ∨ c = i2 := by simpa using hc
    rcases e' with q | q | q | q | q | q
    · rw [q]; exact ⟨_, he, fun v q => nomatch q⟩
    · rw [q]; exact ⟨_, hz, fun v q => nomatch q⟩
    · rw [q]; exact ⟨_, hTI, fun v q => nomatch q⟩
    · rw [q]; exact ⟨_, hTO, fun v q => nomatch q⟩
    · rw [q]; exact ⟨o1, g1, fun v q => by rw [d1] at q; cases q⟩
    · rw [q]; exact ⟨o2, g2, fun v q => by rw [d2] at q; cases q⟩
  keep := fun i h h' st k => by
    obtain ⟨⟨old, he⟩, ⟨f0, f1, hz, h0⟩, hTI, ⟨x, y, hTO⟩, h1, h2⟩ := st
    exact ⟨⟨old, k e (by simp) _ he⟩, ⟨f0, f1, k z (by simp) _ hz, h0⟩, k TI (by simp) _ hTI, ⟨x, y, k TO (by simp) _ hTO⟩, h1.at fun o q => k i1 (by simp) o q, h2.at fun o q => k i2 (by simp) o q⟩
  item := by
    intro X hP hw hK hc i pins s σ H E I hf st hg
    subst hP hw hK
    obtain ⟨⟨old, he⟩, ⟨f0, f1, hz, h0⟩, hTI, ⟨x0, y0, hTO⟩, q1, q2⟩ := st
    obtain ⟨vs, ws, hv, hw', hlt⟩ := hg
    obtain ⟨S1, D1, s1, sI1⟩ := SK.draw X.A.in1.in1 (I.ok.hd hc) I hv q1
    obtain ⟨S2, D2, s2, sI2⟩ := SK.draw X.A.in1.in1 (I.ok.hd hc) I hw' q2
    have nin : ∀ {b : Addr} {k : SK} {it : Addr} {us : List V}, k.Is X.K H us → b ∈ [e, z, TI, TO, i1, i2] → b ≠ it → b ∉ it :: k.cells := fun hu hb ne q => (List.mem_cons.mp q).elim ne (SK.apart I hu (hf _ hb))
    have Sp : ZipSep2 z TI TO i1 i2 (i1 :: k1.cells) (i2 :: k2.cells) :=
      { TIz := D.TIz, TOz := D.TOz, TITO := D.TITO, TIi1 := D.TIi1, mem1 := List.mem_cons_self .., zf1 := nin hv (by simp) D.z1, Tf1 := nin hv (by simp) D.T1, TIi2 := D.TIi2, mem2 := List.mem_cons_self ..,
        zf2 := nin hw' (by simp) D.z2, Tf2 := nin hw' (by simp) D.T2, sep1_2 := nin hw' (by simp) D.i12, sep2_1 := nin hv (by simp) D.i12.symm }
    refine ez_item Sp D1 D2 he e0 eO e1 e2 hz h0 hTI hTO s1 s2 (by omega) (by omega) fun x1 x2 p1 tk g0 g1 b1 b2 h' tk2 hp1 hp2 r1 r2 r3 r4 r5 r6 r7 r8 r9 r10 r11 r12 => ?_
    refine ⟨_, rfl, wpAny_letOwnedTupleGo_enum (s := { s with heap := h', toks := tk2 }) r9 fun h'' he'' hs'' => ?_⟩
    replace hs'' : Heap.SameBut e h' h'' := hs''
    obtain ⟨w1, c1, d1⟩ := hp1
    obtain ⟨w2, c2, d2⟩ := hp2
    have lt : ∀ b ∈ [e, z, TI, TO, i1, i2], b < s.heap.objs.size := fun b hb => by
      have e' : b = e ∨ b = z ∨ b = TI ∨ b = TO ∨ b = i1 ∨ b = i2 := by simpa using hb
      rcases e' with q | q | q | q | q | q
      · rw [q]; exact Heap.lt_size he
      · rw [q]; exact Heap.lt_size hz
      · rw [q]; exact Heap.lt_size hTI
      · rw [q]; exact Heap.lt_size hTO
      · rw [q]; obtain ⟨_, _, _, g1, _⟩ := q1.get; exact Heap.lt_size g1
      · rw [q]; obtain ⟨_, _, _, g2, _⟩ := q2.get; exact Heap.lt_size g2
    -- the pair
    have hk1 : ∀ b o, b ∉ [e, z, TI, TO, i1, i2] → s.heap.get? b = some o → p1.get? b = some o := fun b o hb q =>
      r8 b o (fun x => hb (by simp [x])) (fun x => hb (by simp [x])) (fun x => hb (by simp [x])) (fun x => hb (by simp [x])) q
    have new1 : ObjOk X.prog X.w (upd H s.heap.objs.size (.tup [w1, w2])) p1 s.heap.objs.size (.tup [w1, w2]) :=
      ⟨by show 2 ≤ sizeLine; rw [sizeLine_eq]; decide, [x1, x2], .cons d1 (.cons d2 .nil), ⟨_, r6, rfl, _, rfl⟩⟩
    have I1 : Inv X pins σ (upd H s.heap.objs.size (.tup [w1, w2])) { s with heap := p1, toks := tk } := I.turnedNew (t' := tk) (ch := [e, z, TI, TO, i1, i2]) hk1 hf (Nat.le_refl _) new1
    have hf1 : ∀ b ∈ [e, z, TI, TO, i1, i2], FpOk X pins (upd H s.heap.objs.size (.tup [w1, w2])) b := fun b hb => ⟨by rw [upd_ne (Nat.ne_of_lt (lt b hb))]; exact (hf b hb).1, (hf b hb).2⟩
    -- the outer tuple
    have e3 : (0 : Int) + (i : Int) = (i : Nat) := by omega
    have hk2 : ∀ b o, b ∉ [e, z, TI, TO, i1, i2] → p1.get? b = some o → h''.get? b = some o := fun b o hb q =>
      have hbe : b ≠ e := fun x => hb (by simp [x])
      hs''.extBut b o hbe (r12 b o hbe q)
    have hep : e < p1.objs.size := by rw [r7]; exact Nat.lt_succ_of_lt (Heap.lt_size he)
    have hT2 : h''.get? p1.objs.size = some { cls := .type "tuple", data := .seq #[.int ((i : Nat) : Int) tk, .ref s.heap.objs.size] } := by
      rw [e3] at r10
      exact hs''.extBut _ _ (Nat.ne_of_gt hep) r10
    have new2 : ObjOk X.prog X.w (upd (upd H s.heap.objs.size (.tup [w1, w2])) p1.objs.size (.tup [.int (i : Nat), .ref s.heap.objs.size])) h'' p1.objs.size (.tup [.int (i : Nat), .ref s.heap.objs.size]) :=
      ⟨by show 2 ≤ sizeLine; rw [sizeLine_eq]; decide, [.int ((i : Nat) : Int) tk, .ref s.heap.objs.size], .cons ⟨_, rfl⟩ (.cons rfl .nil), ⟨_, hT2, rfl, _, rfl⟩⟩
    have I2 : Inv X pins σ (upd (upd H s.heap.objs.size (.tup [w1, w2])) p1.objs.size (.tup [.int (i : Nat), .ref s.heap.objs.size])) { s with heap := h'', toks := tk2 } :=
      I1.turnedNew (t' := tk2) (ch := [e, z, TI, TO, i1, i2]) hk2 hf1 (Nat.le_refl _) new2
    have keep2 : ∀ b o, b ≠ e → p1.get? b = some o → h''.get? b = some o := fun b o hb q => hs''.extBut b o hb (r12 b o hb q)
    have nT : (upd H s.heap.objs.size (.tup [w1, w2])) p1.objs.size = none := I1.hok.fresh (Nat.le_refl _)
    refine ⟨.ref p1.objs.size, _, I2, rfl, ⟨p1.objs.size, s.heap.objs.size, w1, w2, rfl, I.hok.fresh (Nat.le_refl _), nT, rfl, fun us hu => by rw [SK.inj I hu hv]; exact c1, fun us hu => by rw [SK.inj I hu hw']; exact c2⟩, ?_, fun b hb => ?_⟩
    · refine ⟨⟨_, by have e4 : (0 : Int) + ((i + 1 : Nat) : Int) = (0 : Int) + (i : Int) + 1 := by omega
                     rw [e4]; exact he''⟩, ⟨g0, g1, keep2 z _ e0.symm r1, r2⟩, keep2 TI _ eI.symm (r8 TI _ D.TIz D.TITO D.TIi1 D.TIi2 hTI), ⟨b1, b2, keep2 TO _ eO.symm r3⟩, ?_, ?_⟩
      · exact (sI1 _ _ r4).at fun o q => keep2 i1 o e1.symm q
      · exact (sI2 _ _ r5).at fun o q => keep2 i2 o e2.symm q
    · rw [upd_ne (Nat.ne_of_lt (Nat.lt_trans (lt b hb) (by rw [r7]; exact Nat.lt_succ_self _))), upd_ne (Nat.ne_of_lt (lt b hb))]
      exact (hf b hb).1
  done := by
    intro X hP hw hK hc i pins s σ H E I hf st hg
    subst hP hw hK
    obtain ⟨⟨old, he⟩, ⟨f0, f1, hz, h0⟩, hTI, ⟨x0, y0, hTO⟩, q1, q2⟩ := st
    obtain ⟨vs, ws, hv, hw', rfl⟩ := hg
    obtain ⟨S1, D1, s1, sI1⟩ := SK.draw X.A.in1.in1 (I.ok.hd hc) I hv q1
    obtain ⟨S2, D2, s2, sI2⟩ := SK.draw X.A.in1.in1 (I.ok.hd hc) I hw' q2
    have nin : ∀ {b : Addr} {k : SK} {it : Addr} {us : List V}, k.Is X.K H us → b ∈ [e, z, TI, TO, i1, i2] → b ≠ it → b ∉ it :: k.cells := fun hu hb ne q => (List.mem_cons.mp q).elim ne (SK.apart I hu (hf _ hb))
    have Sp : ZipSep2 z TI TO i1 i2 (i1 :: k1.cells) (i2 :: k2.cells) :=
      { TIz := D.TIz, TOz := D.TOz, TITO := D.TITO, TIi1 := D.TIi1, mem1 := List.mem_cons_self .., zf1 := nin hv (by simp) D.z1, Tf1 := nin hv (by simp) D.T1, TIi2 := D.TIi2, mem2 := List.mem_cons_self ..,
        zf2 := nin hw' (by simp) D.z2, Tf2 := nin hw' (by simp) D.T2, sep1_2 := nin hw' (by simp) D.i12, sep2_1 := nin hv (by simp) D.i12.symm }
    exact ez_end Sp D1 D2 he hz h0 hTI hTO s1 s2 (by omega) (by omega) (by omega) fun h' tk hk => ⟨rfl, I.turnedL (t' := tk) (ch := [e, z, TI, TO, i1, i2]) (fun b o hb q =>
      hk b o (fun x => hb (by simp [x])) (fun x => hb (by simp [x])) (fun x => hb (by simp [x])) (fun x => hb (by simp [x])) q) hf⟩
  self := fun A i s Q E st h => let ⟨⟨_, he⟩, _⟩ := st; wpAny_pyIter_enum he h

theorem meets_enumerate_newZ {z TI TO : Addr} :
    Meets (Builtin.«enumerate.__new__» ⟨[.type "enumerate", .ref z], []⟩) (fun _ R s => IsZip s.heap z TI TO .none ∧
      R (.ok (.ret (.ref s.heap.objs.size))) { s with heap := s.heap.push { cls := .type "enumerate", data := .fields #[.none, .bool false, .ref z, rawInt 0, .none, .none] } }) :=
  .of_wp fun prog w A R s h => by
    obtain ⟨hp, g, d, tk, os⟩ := s; obtain ⟨h1, h⟩ := h
    have hsub := sub_enumerate
    have q1 : ∀ {A' : Around} {E : Value → Shared → Prop} {Q : Value → Shared → Prop}, Q (.ref z) ⟨hp, g, d, tk, os⟩ → wpAny (model prog w) A' (pyIter (.ref z)) Q E ⟨hp, g, d, tk, os⟩ :=
      fun q => wpAny_pyIter_zip h1 q
    wp_walk using q1
    refine wpAny_stack_any fun st => wpAny_pure ?_
    split
    · rename_i c _ _ _ _ _
      cases (c == Value.type "enumerate")
      · wp_walk using q1
        exact ⟨_, rfl, h⟩
      · wp_walk using q1
        exact ⟨_, rfl, h⟩
    · wp_walk using q1
      exact ⟨_, rfl, h⟩
theorem enum_zip {prog : Program} {w : World} {A : Around} {E : Value → Shared → Prop} {s : Shared} {z TI TO : Addr} {Q : Value → Shared → Prop} (h1 : IsZip s.heap z TI TO .none)
    (h : ∀ h', IsEnum h' s.heap.objs.size z 0 .none → h'.objs.size = s.heap.objs.size + 1 → (∀ b o, s.heap.get? b = some o → h'.get? b = some o) → Q (.ref s.heap.objs.size) { s with heap := h' }) :
    wpAny (model prog w) A (call (.type "enumerate") [.ref z]) Q E s := by
  refine callType_new F.called_enumerate (by decide) (F.typeCall_enumerate_1 _) (F.newCall_enumerate_1 _) (fun obj => F.args_object_init_2 obj _) F.entry_enumerate_new
    meets_enumerate_newZ ⟨h1, ?_⟩
  have he : IsEnum (s.heap.push { cls := .type "enumerate", data := .fields #[.none, .bool false, .ref z, rawInt 0, .none, .none] }) s.heap.objs.size z 0 .none := Heap.get?_push_size _ rfl
  exact ⟨⟨_, he, rfl⟩, h _ he (Heap.size_push ..) fun b o x => Heap.get?_push_of_some _ x⟩
section
variable {X : Cx}
def iEzG (K : PySem.W.Frag) (ta : TA) : TI := fun σ H R => ta σ H fun vs H1 => ∃ w u, vs = [w, u] ∧ SkV K H1 w fun k => SkV K H1 u fun l => R (JEZ K k l) H1
theorem pi_ezG {e e2 : Expr} {ta : TA} {p p2 pos q tpos : Pos} {elts : List Expr} {kk : Nat} (hg0 : Gl X "enumerate") (hm0 : X.mg "enumerate" = none) (hg : Gl X "zip") (hm : X.mg "zip" = none) (ha : PA X [e, e2] ta)
    (hs : starEach [e, e2] X.env = (false, eval e X.env) :: starEach [e2] X.env) (hpl : ∀ pos, (backTo pos (starEach [e2] X.env)).any (·.1) = false) :
    PI X (.Tuple elts kk tpos) (.Call (.Name "enumerate" p) [.Call (.Name "zip" p2) [e, e2] [] q] [] pos) (iEzG X.K ta) := by
  refine ⟨fun pins s σ H R I h => ?_⟩
  refine Call_ (ld_blt I hg0 hm0 boot_enumerate ?_)
  refine PyProof.Rows.callWith_type1 (PyProof.Rows.args_cons ?_ rfl) rfl rfl
  refine Call_ (ld_blt I hg hm PyProof.Rows.boot_zip (PyProof.Rows.callWith_type1 (thn (ha.run q pins s σ H _ I h) fun us s1 ⟨vs, H1, I1, r1, q1⟩ => ?_) hs (hpl q)))
  obtain ⟨w, u, ex, q0⟩ := q1
  subst ex
  obtain ⟨u1, u2, rfl, r, r'⟩ := vals2 r1
  obtain ⟨k, rfl, q2, ws, hk⟩ := skv_of r q0
  obtain ⟨l, rfl, q3, us, hl⟩ := skv_of r' q2
  obtain ⟨C, B, hC⟩ := SK.begins I1 hk
  obtain ⟨C2, B2, hC2⟩ := SK.begins I1 hl
  refine zip_begins2 B B2 hC hC2 fun h' hz hTI hTO h1 h2 hsz hkp => ?_
  refine PyProof.Rows.args_nil ?_
  refine enum_zip (s := { s1 with heap := h' }) hz fun h'' he hsz2 hkp2 => wpAny_pyIter_enum he ?_
  have hsz' : h'.objs.size = s1.heap.objs.size + 5 := hsz
  have I2 : Inv X pins σ H1 { s1 with heap := h'' } := I1.kept (t' := s1.toks) fun b o e => hkp2 b o (hkp b o e)
  have en : ({ s1 with heap := h' } : Shared).heap.objs.size = s1.heap.objs.size + 5 := hsz
  refine ⟨h'.objs.size, [h'.objs.size, s1.heap.objs.size + 4, s1.heap.objs.size + 2, s1.heap.objs.size + 3, s1.heap.objs.size, s1.heap.objs.size + 1], _, _, H1, rfl, I2, turn_ezG k l (ap2 _) (by show (_ : Nat) ≠ _; omega) (by show (_ : Nat) ≠ _; omega) (by show (_ : Nat) ≠ _; omega) (by show (_ : Nat) ≠ _; omega) (by show (_ : Nat) ≠ _; omega),
    ⟨⟨_, he⟩, ⟨_, _, hkp2 _ _ hz, .inl rfl⟩, hkp2 _ _ hTI, ⟨_, _, hkp2 _ _ hTO⟩, (SK.It.of_obj h1).at fun o q => hkp2 _ _ q, (SK.It.of_obj h2).at fun o q => hkp2 _ _ q⟩, fun c hcm => ?_, q3⟩
  have e' : c = h'.objs.size ∨ c = s1.heap.objs.size + 4 ∨ c = s1.heap.objs.size + 2 ∨ c = s1.heap.objs.size + 3 ∨ c = s1.heap.objs.size ∨ c = s1.heap.objs.size + 1 := by simpa using hcm
  refine fresh_fp I1 ?_
  rcases e' with q | q | q | q | q | q
  · rw [q]; show (_ : Nat) ≤ _; omega
  · rw [q]; exact Nat.le_add_right _ _
  · rw [q]; exact Nat.le_add_right _ _
  · rw [q]; exact Nat.le_add_right _ _
  · rw [q]; exact Nat.le_refl _
  · rw [q]; exact Nat.le_add_right _ _
end
end G

namespace G
open PySem PySem.Spec PyProof.Rows L2
variable [tb : Tb]

/-- the source that a value is -/
def skOf : PV → V → SK → Prop
  | .tup _, w, k => ∃ a, w = .ref a ∧ k = .t a
  | .str x, w, k => w = .str x ∧ ∃ tk, k = .s x tk
  | _, w, k => ∃ a, w = .ref a ∧ k = .l a
section
variable {K : PySem.W.Frag} {μ : PM} {H H0 : Hp} {v : PV} {w : V}
theorem chars_rep (z : Str) : RepVs K H (strItems z) (chars z) := by
  unfold strItems chars
  generalize z.cps.toList = l
  induction l with
  | nil => exact RepVs.nil
  | cons c r ih => exact RepVs.cons ⟨rfl, by rw [sizeLine_eq]; show 1 ≤ _; decide⟩ ih
theorem itS_res {xs : List PV} {k : SK} (m : RepH K H μ) (r : Res K H0 μ H v w) (e : itS μ v = some xs) (hk : skOf v w k) : ∃ us, k.Is K H us ∧ RepVs K H xs us := by
  cases v with
  | str z =>
    obtain ⟨rfl, tk, rfl⟩ := hk
    cases e
    exact ⟨_, rfl, chars_rep z⟩
  | tup ys =>
    obtain ⟨a, rfl, rfl⟩ := hk
    cases e
    obtain ⟨b, vs, e1, s, _, r2⟩ := r
    cases e1
    exact ⟨vs, s, r2⟩
  | tmp ys =>
    obtain ⟨a, rfl, rfl⟩ := hk
    cases e
    obtain ⟨b, vs, e1, _, h, _, _, r2⟩ := r
    cases e1
    exact ⟨vs, SqL.of h, r2⟩
  | kl ys =>
    obtain ⟨a, rfl, rfl⟩ := hk
    cases e
    obtain ⟨b, vs, e1, h, _, r2⟩ := r
    cases e1
    exact ⟨vs, .inr h, r2⟩
  | ref b =>
    obtain ⟨a, rfl, rfl⟩ := hk
    cases (show V.ref a = V.ref b from r)
    have e : seqOf μ (.ref b) = some xs := e
    cases q : μ b with
    | none => simp [seqOf, q] at e
    | some o =>
      obtain ⟨h, e1, e2⟩ := m b o q
      cases o with
      | lst ys =>
        simp [seqOf, q] at e; subst e
        obtain ⟨vs, rfl, z, r2⟩ := e2
        exact ⟨vs, SqL.of e1, r2⟩
      | frz ys =>
        simp [seqOf, q] at e; subst e
        obtain ⟨o, vs, rfl, z, r2⟩ := e2
        exact ⟨vs, .inl (.inr ⟨o, e1⟩), r2⟩
      | dk _ => simp [seqOf, q] at e
      | dt _ => simp [seqOf, q] at e
      | ins _ _ => simp [seqOf, q] at e
  | non => cases e
  | bl _ => cases e
  | int _ => cases e
  | ty _ => cases e
theorem skV_of {xs : List PV} {R : SK → Prop} (m : RepH K H μ) (r : Res K H0 μ H v w) (e : itS μ v = some xs) (h : ∀ k, skOf v w k → R k) : SkV K H w R := by
  cases v with
  | str z =>
    obtain ⟨rfl, _⟩ := (show w = .str z ∧ _ from r)
    exact .inr (.inr ⟨z, rfl, fun tk => h _ ⟨rfl, tk, rfl⟩⟩)
  | tup ys =>
    obtain ⟨a, vs, rfl, s, _, r2⟩ := r
    exact .inr (.inl ⟨a, vs, rfl, s, h _ ⟨a, rfl, rfl⟩⟩)
  | tmp ys =>
    obtain ⟨a, vs, rfl, _, q, _, _, r2⟩ := r
    exact .inl ⟨a, vs, rfl, SqL.of q, h _ ⟨a, rfl, rfl⟩⟩
  | kl ys =>
    obtain ⟨a, vs, rfl, q, _, r2⟩ := r
    exact .inl ⟨a, vs, rfl, .inr q, h _ ⟨a, rfl, rfl⟩⟩
  | ref b =>
    cases (show w = .ref b from r)
    obtain ⟨us, q, _⟩ := itS_res (k := .l b) m r e ⟨b, rfl, rfl⟩
    exact .inl ⟨b, us, rfl, q, h _ ⟨b, rfl, rfl⟩⟩
  | non => cases e
  | bl _ => cases e
  | int _ => cases e
  | ty _ => cases e
end

/-- J gives the items, one by one, while src stands -/
structure GW (K : PySem.W.Frag) (src : PM → Hp → Prop) (items : List PV) (J : It) : Prop where
  go : ∀ i μ H, RepH K H μ → src μ H → i < items.length → J.go i H
  stop : ∀ μ H, RepH K H μ → src μ H → J.stop items.length H
  yld : ∀ i μ H x H', RepH K H μ → src μ H → i < items.length → J.yld i H x H' → ∃ v, items[i]? = some v ∧ RepH K H' μ ∧ Ext μ H μ H' ∧ RepV K H' v x

section
variable {K : PySem.W.Frag} {items : List PV} {src : PM → Hp → Prop}
theorem GW.seq {k : SK} {J : It} (hs : ∀ μ H, RepH K H μ → src μ H → ∃ us, k.Is K H us ∧ RepVs K H items us)
    (hgo : ∀ i H us, k.Is K H us → i < us.length → J.go i H) (hst : ∀ H us, k.Is K H us → J.stop us.length H) (hy : ∀ i H x H', J.yld i H x H' → H' = H ∧ ∀ us, k.Is K H us → us[i]? = some x) : GW K src items J where
  go := fun i μ H m s hi => by
    obtain ⟨us, h1, h2⟩ := hs μ H m s
    exact hgo i H us h1 (by rw [← h2.length]; exact hi)
  stop := fun μ H m s => by
    obtain ⟨us, h1, h2⟩ := hs μ H m s
    rw [h2.length]
    exact hst H us h1
  yld := fun i μ H x H' m s hi y => by
    obtain ⟨us, h1, h2⟩ := hs μ H m s
    obtain ⟨rfl, h3⟩ := hy i H x H' y
    obtain ⟨v, e1, e2⟩ := h2.get' (h3 us h1)
    exact ⟨v, e1, m, Ext.refl, e2⟩
theorem GW.rng {lo : Int} {n : Nat} : GW K src (rngItems lo n) (Itr lo n) where
  go := fun i μ H m s hi => by
    show i < n
    simpa [rngItems] using hi
  stop := fun μ H m s => by show n ≤ _; simp [rngItems]
  yld := fun i μ H x H' m s hi y => by
    obtain ⟨rfl, rfl⟩ := y
    have hi' : i < n := by simpa [rngItems] using hi
    exact ⟨.int (lo + i), by simp [rngItems, hi'], m, Ext.refl, rfl⟩
theorem pair_rep {H : Hp} {μ : PM} {T : Addr} {x y : V} {a b : PV} (m : RepH K H μ) (n : H T = none) (h1 : RepV K H a x) (h2 : RepV K H b y) :
    RepH K (upd H T (.tup [x, y])) μ ∧ Ext μ H μ (upd H T (.tup [x, y])) ∧ RepV K (upd H T (.tup [x, y])) (.tup [a, b]) (.ref T) :=
  ⟨m.hid n, Ext.hid n, T, [x, y], rfl, SqT.of upd_same, (by rw [sizeLine_eq]; show 2 ≤ _; decide), RepVs.cons (h1.mono (TupLe.upd_new n)) (RepVs.cons (h2.mono (TupLe.upd_new n)) RepVs.nil)⟩
theorem GW.enum {k : SK} {xs : List PV} (hs : ∀ μ H, RepH K H μ → src μ H → ∃ us, k.Is K H us ∧ RepVs K H xs us) :
    GW K src ((List.range xs.length).zipWith (fun (i : Nat) v => PV.tup [.int i, v]) xs) (JE K k) where
  go := fun i μ H m s hi => by
    obtain ⟨us, h1, h2⟩ := hs μ H m s
    exact ⟨us, h1, by rw [← h2.length]; simpa using hi⟩
  stop := fun μ H m s => by
    obtain ⟨us, h1, h2⟩ := hs μ H m s
    exact ⟨us, h1, by rw [← h2.length]; simp⟩
  yld := fun i μ H x H' m s hi y => by
    obtain ⟨us, h1, h2⟩ := hs μ H m s
    obtain ⟨T, x0, rfl, n, rfl, h3⟩ := y
    obtain ⟨v, e1, e2⟩ := h2.get' (h3 us h1)
    obtain ⟨q1, q2, q3⟩ := pair_rep (a := .int (i : Nat)) (x := .int (i : Nat)) m n rfl e2
    have hi' : i < xs.length := by simpa using hi
    refine ⟨_, ?_, q1, q2, q3⟩
    rw [List.getElem?_zipWith]
    simp [hi', (List.getElem?_eq_some_iff.mp e1).2]
theorem GW.zip {k l : SK} {xs ys : List PV} (hs : ∀ μ H, RepH K H μ → src μ H → ∃ us, k.Is K H us ∧ RepVs K H xs us) (hl : ∀ μ H, RepH K H μ → src μ H → ∃ us, l.Is K H us ∧ RepVs K H ys us) :
    GW K src (xs.zipWith (fun a b => PV.tup [a, b]) ys) (JZ K k l) where
  go := fun i μ H m s hi => by
    obtain ⟨us, h1, h2⟩ := hs μ H m s
    obtain ⟨us2, g1, g2⟩ := hl μ H m s
    exact ⟨us, us2, h1, g1, by rw [← h2.length, ← g2.length]; simpa using hi⟩
  stop := fun μ H m s => by
    obtain ⟨us, h1, h2⟩ := hs μ H m s
    obtain ⟨us2, g1, g2⟩ := hl μ H m s
    exact ⟨us, us2, h1, g1, by rw [← h2.length, ← g2.length]; simp⟩
  yld := fun i μ H x H' m s hi y => by
    obtain ⟨us, h1, h2⟩ := hs μ H m s
    obtain ⟨us2, g1, g2⟩ := hl μ H m s
    obtain ⟨T, x0, y0, rfl, n, rfl, h3, h4⟩ := y
    obtain ⟨v, e1, e2⟩ := h2.get' (h3 us h1)
    obtain ⟨v2, f1, f2⟩ := g2.get' (h4 us2 g1)
    obtain ⟨q1, q2, q3⟩ := pair_rep m n e2 f2
    refine ⟨_, ?_, q1, q2, q3⟩
    rw [List.getElem?_zipWith]
    simp [e1, f1]
end

section
variable {X : Cx}
def iSeqG (K : PySem.W.Frag) (te : TE) : TI := fun σ H R => te σ H fun w H1 => SkV K H1 w fun k => R (match k with | .l a => Itl K a | .t a => Itt K a | .s x _ => Its x) H1
theorem pi_seqG {tg e : Expr} {te : TE} (he : PE X e te) : PI X tg e (iSeqG X.K te) := by
  refine ⟨fun pins s σ H R I h => ?_⟩
  refine thn (he.run pins s σ H _ I h) fun v s1 ⟨x, H1, I1, r1, q1⟩ => ?_
  have one : ∀ b ∈ [s1.heap.objs.size], FpOk X pins H1 b := fun b hb => by
    have e : b = s1.heap.objs.size := by simpa using hb
    rw [e]
    exact fresh_fp I1 (Nat.le_refl _)
  rcases q1 with ⟨a, vs, rfl, hq, q⟩ | ⟨a, vs, rfl, hq, q⟩ | ⟨x, rfl, q⟩
  · cases r1
    obtain ⟨its, rv, p, hz⟩ := I1.list hq
    refine wpAny_pyIter_list p.isList ?_
    exact ⟨s1.heap.objs.size, [s1.heap.objs.size], _, _, H1, rfl, I1.kept (t' := s1.toks) fun b o e => Heap.get?_push_of_some _ e, turn_list a _, ⟨_, Heap.get?_push_size _ rfl, rfl, rfl⟩, one, q⟩
  · cases r1
    obtain ⟨its, rv, p, hz⟩ := I1.tuple hq
    refine wpAny_pyIter_tuple (show s1.heap.IsTuple a its.toArray from p) ?_
    exact ⟨s1.heap.objs.size, [s1.heap.objs.size], _, _, H1, rfl, I1.kept (t' := s1.toks) fun b o e => Heap.get?_push_of_some _ e, turn_tuple a _, ⟨_, Heap.get?_push_size _ rfl, rfl, rfl⟩, one, q⟩
  · obtain ⟨t, rfl⟩ := r1
    have q' := q t
    cases ha : x.cps.all (· < 128)
    · exact wpAny_pyIter_wide ha (pi_one (tk := s1.toks) I1 _ (turn_str _ x t "str_iterator" (.inr rfl)) ⟨_, Heap.get?_push_size _ rfl, rfl, rfl⟩ q')
    · exact wpAny_pyIter_ascii ha (pi_one (tk := s1.toks) I1 _ (turn_str _ x t "str_ascii_iterator" (.inl rfl)) ⟨_, Heap.get?_push_size _ rfl, rfl, rfl⟩ q')
end
end G

namespace G
open PySem PySem.Spec PyProof.Rows L2
variable [tb : Tb]

structure GS where
  fns : List (Nat × Str × Option Str)
  consts : List (Str × PV)
  free : List Str
  owns : List Str
  classes : List Str
  flds : List (Str × Str)
  meths : List (Str × Str)
  makes : List (Str × Nat)
  asked : List Cl
  excs : List Str
  exask : List Cl
  lfs : List (Nat × Str)
  hfs : List (Nat × Str)

def spOf (K : PySem.W.Frag) (call : List PV → PM → Post → XPost → Prop) : Sp := fun vs H Q E => ∃ pvs μ P X, RepVs K H pvs vs ∧ RepH K H μ ∧ call pvs μ P X ∧
  (∀ v μ' w H', RepV K H' v w → RepH K H' μ' → Ext μ H μ' H' → P v μ' → Q w H') ∧ (∀ x μ' cls d H', RepX K H' x cls d → RepH K H' μ' → Ext μ H μ' H' → X x μ' → E cls d H')

/-- a def stands at f and keeps the small language's promise -/
structure FnF (P : Program) (w : World) (K : PySem.W.Frag) (mg : Str → Option Value) (base : Heap) (k : Nat) (call : List PV → PM → Post → XPost → Prop) (f : Addr) : Prop where
  kp : PySem.W.keepIn K (.ref f) = true
  ok : ∃ fd ps, FnOk P w K mg base (L2N.CX P w) k f fd ps (spOf K call) ∧ Binds K fd ps []

def bt7 : List String := ["NoneType", "bool", "int", "str", "tuple", "list", "dict"]
/-- what the written part says of own exception classes without fields -/
structure ExF (G : GS) (K : PySem.W.Frag) (mg : Str → Option Value) : Prop where
  nm : ∀ c ∈ G.excs, mg c = some (.ref (He.ga K c)) ∧ PySem.W.keepIn K (.ref (He.ga K c)) = true
  isk : ∀ c ∈ G.excs, ∀ u ∈ G.exask, PySem.W.kitOne K (.ref (He.ga K c)) (clV K u) = some (exIs c u)
  one : ∀ c ∈ G.excs, ∀ d ∈ G.excs, PySem.W.exmOne K (.ref (He.ga K c)) (.ref (He.ga K d)) = some (exIs c (.own d))
  cl : ∀ c ∈ G.excs, ExcC K (He.ga K c)
  mkx : ∀ c ∈ G.excs, ∃ bmB B newId initId, PySem.ExcBaseFacts B newId initId bmB ∧ PySem.W.excIn K (He.ga K c) bmB newId = true
  ty : ∀ c ∈ G.excs, PySem.W.typeIn K (.ref (He.ga K c)) = some (.type "type")
/-- contexts of the same def -/
def LikeX (X X' : Cx) : Prop := X'.prog = X.prog ∧ X'.w = X.w ∧ X'.K = X.K ∧ X'.mg = X.mg ∧ X'.base = X.base ∧ X'.env.code = X.env.code ∧ X'.env.qual = X.env.qual
omit tb in
theorem LikeX.refl {X : Cx} : LikeX X X := ⟨rfl, rfl, rfl, rfl, rfl, rfl, rfl⟩
omit tb in
theorem LikeX.trans {X Y Z : Cx} (a : LikeX X Y) (b : LikeX Y Z) : LikeX X Z := ⟨b.1.trans a.1, b.2.1.trans a.2.1, b.2.2.1.trans a.2.2.1, b.2.2.2.1.trans a.2.2.2.1, b.2.2.2.2.1.trans a.2.2.2.2.1, b.2.2.2.2.2.1.trans a.2.2.2.2.2.1, b.2.2.2.2.2.2.trans a.2.2.2.2.2.2⟩
/-- the context of a lambda's body; what it lets out has no context -/
abbrev lamN (X : Cx) (A : Around) (outer : List Env) (s : Shared) (H : Hp) (E : XK) (scope : Scope) (f c' : Addr) : Cx :=
  { LamX.lamCx X A outer s H E scope f c' with xe := fun e s' => wpAny (model X.prog X.w) (A.deeper (LamX.lamEnv X scope s.heap.objs.size f c')) (leaving (LamX.lamEnv X scope s.heap.objs.size f c') e) (fun _ s'' => L2N.CX X.prog X.w outer H s E e s'') (fun e' s'' => L2N.CX X.prog X.w outer H s E e' s'') s' }
/-- the body of a lambda in a def of X -/
abbrev lamK (k : Nat) (X : Cx) (lsc : Scope) (b : Expr) (wb : PE_ → PM → Post → XPost → Prop) : Prop :=
  ∀ (A : Around) (outer : List Env) (s : Shared) (H : Hp) (E : XK) (f c' : Addr), Room k (A.deeper (LamX.lamEnv X lsc s.heap.objs.size f c')) → PE (lamN X A outer s H E lsc f c') b (_root_.G.T X.K (fun cls d _ H => E cls d H) wb)
/-- x is a def that calls the thunk that it is handed -/
def LfF (k : Nat) (X : Cx) (lf : (PM → Post → XPost → Prop) → PM → Post → XPost → Prop) (x : Str) : Prop :=
  ∀ (W : WX) (lsc : Scope) (b : Expr) (wb : PE_ → PM → Post → XPost → Prop) (p lpos pos : Pos), L2N.Takes X W → Gl X x → (x == ("__debug__" : Str)) = false → LamX.LamS X.env.scope lsc → lamK k X lsc b wb →
    PE X (.Call (.Name x p) [.Lambda ⟨[], [], none, [], [], none, []⟩ b lsc lpos] [] pos) (_root_.G.T X.K W fun ρ μ P Y => lf (fun μ' P' X' => wb ρ μ' P' X') μ P Y)
def noStar : Expr → Bool
  | .Starred _ _ => false
  | _ => true
def TAm (K : PySem.W.Frag) (W : WX) (wp : PE_ → PM → (List PV → PM → Prop) → XPost → Prop) : TA := fun σ H Q => ∃ ρ μ P X, RepE K H ρ σ ∧ RepH K H μ ∧ wp ρ μ P X ∧
  (∀ vs μ' ws H', RepVs K H' vs ws → RepH K H' μ' → Ext μ H μ' H' → P vs μ' → Q ws H') ∧ XCont K W σ μ H X
/-- x is a def that may be called while an exception is handled -/
def HfF (X : Cx) (call : List PV → PM → Post → Prop) (x : Str) : Prop :=
  ∀ (W : WX) (e : Expr) (es : List Expr) (ws : PE_ → PM → (List PV → PM → Prop) → XPost → Prop) (p pos : Pos), PA X (e :: es) (TAm X.K W ws) → Gl X x → (x == ("__debug__" : Str)) = false → (e :: es).all noStar = true →
    PE X (.Call (.Name x p) (e :: es) [] pos) (_root_.G.T X.K W fun ρ μ P Y => ws ρ μ (fun vs μ1 => call vs μ1 P) Y)
/-- a class straight below object with its own __eq__ (the def at f) and no __ne__ -/
def neIn (K : PySem.W.Frag) (C f : Addr) : Bool := match K.lookup C with
  | some ⟨.type "type", _, .cls cd, sl⟩ => (match cd.mro, sl.toList with
    | .ref C' :: bm, [_, _, _, _, some (.builtin _), _] => C' == C && bm == [.type "object"] && !cd.hasDel && PySem.W.nsOkIn K cd.ns && PySem.W.nsIn K cd.ns "__eq__" == some (some (.ref f)) && PySem.W.nsIn K cd.ns "__ne__" == some none &&
      (match K.lookup f with
      | some of => of.cls == .type "function"
      | none => false)
    | _, _ => false)
  | _ => false
structure Gd (G : GS) (hot : Nat) (C : Calls) (k : Nat) (X : Cx) : Prop where
  calm : hot = 0 → X.calm = true
  un : X.A.units + 64 < cLine
  nd : X.N.Nodup
  room : hot = 0 → Room (k + 1) X.A
  free : ∀ x ∈ G.free, X.mg x = none
  con : ∀ p ∈ G.consts, ∃ u w, X.mg p.1 = some u ∧ RelV w u ∧ ∀ H, RepV X.K H p.2 w
  own : ∀ c ∈ G.owns, X.mg c = some (.ref (He.ga X.K c))
  isi : ∀ t u, (∃ b ∈ bt7, t = .bt b) ∨ (∃ c ∈ G.classes, t = .own c) → u ∈ G.asked → PySem.W.kitOne X.K (clV X.K t) (clV X.K u) = some (isOne t u)
  ins : ∀ c ∈ G.classes, InsOk X.K c
  fld : ∀ p ∈ G.flds, Cls X.K (He.ga X.K p.1) ∧ NoAttr X.K (He.ga X.K p.1) p.2
  fn : ∀ (f : Nat) (p : Str × Option Str), (f, p) ∈ G.fns → FnF X.prog X.w X.K X.mg X.base (k + 1) (C.fn f) (He.fAd X.K p)
  gl : ∀ (f : Nat) (x : Str), (f, x, none) ∈ G.fns → X.mg x = some (.ref (He.ga X.K x))
  mkf : ∀ (f : Nat) (p : Str × Option Str), (f, p) ∈ G.fns → FnF X.prog X.w X.K X.mg X.base k (C.mk f) (He.fAd X.K p)
  evh : hot = 0 → C.ev = {}
  evx : hot ≤ 1 → C.ev.ex = none
  ex2 : hot = 2 → ∃ a c, C.ev.ex = some (a, c)
  hx : hot = 2 → L2H.HotC X
  hf0 : hot = 0 → G.hfs = []
  hf1 : hot ≤ 1 → ∀ f x, (f, x) ∈ G.hfs → ∀ (a : Addr) (oe : Obj) (cl : Str) (pn : List (Addr × Obj)), cl ∈ G.excs → L2N.Zn (.ref (He.ga X.K cl)) none oe → (∃ vs, oe.data = .fields vs) → HfF (X.suite a ((a, oe) :: pn)) (fun vs μ P => C.ev.hf f (a, cl) vs μ P) x
  hf2 : hot = 2 → ∀ f x, (f, x) ∈ G.hfs → ∀ p, C.ev.ex = some p → HfF X (fun vs μ P => C.ev.hf f p vs μ P) x
  th1 : hot = 1 → ∃ a T, C.ev.th = some (a, T)
  lf0 : hot = 0 → k < 2 → ∀ f Tt μ P Y, ¬ C.lf f Tt μ P Y
  lfk : hot = 0 → ∀ f x, (f, x) ∈ G.lfs → ∀ X' : Cx, LikeX X X' → Room (k + 1) X'.A → LfF (k - 1) X' (C.lf f) x
  low : hot = 0 → ∀ (f : Nat) (p : Str × Option Str), (f, p) ∈ G.fns → FnF X.prog X.w X.K X.mg X.base (k - 1) (C.fl f) (He.fAd X.K p) ∧ FnF X.prog X.w X.K X.mg X.base (k - 2) (C.ml f) (He.fAd X.K p)
  exf : ExF G X.K X.mg
  act : ∀ a T, C.ev.th = some (a, T) → ∀ (pn : List (Addr × Obj)) (xe : Value → Shared → Prop) (W : WX) (nm : Str) (p1 p2 : Pos), X.N[0]? = some nm → L2N.Takes (X.tr pn xe) W →
    PE (X.tr pn xe) (.Call (.Name nm p1) [] [] p2) (_root_.G.T X.K W fun ρ μ P Y => ρ[0]? = some (some (.ref a)) ∧ T μ P Y)
  exh : ∀ a c, C.ev.ex = some (a, c) → c ∈ G.excs ∧ CallR X (.builtin "isinstance") (rIsE X.K (He.ga X.K c) a)
  mth : ∀ p ∈ G.meths, Cls X.K (He.ga X.K p.1) ∧ Meth X.K (He.ga X.K p.1) p.2 (He.fAd X.K (p.1, some p.2)) ∧ (p.2 = ("__eq__" : Str) → neIn X.K (He.ga X.K p.1) (He.fAd X.K (p.1, some p.2)) = true)
  mkr : ∀ p ∈ G.makes, Mk X.K (He.ga X.K p.1) (He.ma X.K (He.ga X.K p.1) "__init__") ∧ X.mg p.1 = some (.ref (He.ga X.K p.1)) ∧ (p.2, p.1, some ("__init__" : Str)) ∈ G.fns

section
variable {X : Cx} {CX : CXT} {k : Nat} {f C : Addr} {fd : FuncData} {ps : List Str} {sp : Sp} {E : St → XK} {x m : Str} {p pos apos : Pos} {e o : Expr} {es : List Expr} {ta : TE} {t : TA}
theorem pe_callS0 (F : FnOk X.prog X.w X.K X.mg X.base CX k f fd ps sp) (hr : Room k X.A) (hg : Gl X x) (hm : X.mg x = some (.ref f)) (hk : PySem.W.keepIn X.K (.ref f) = true) (hb : Binds X.K fd ps []) (hx : ∀ σ, PassesAt CX X σ (E σ))
    (hdb : (x == ("__debug__" : Str)) = false) : PE X (.Call (.Name x p) [] [] pos) (tCallS sp E tNil) := by
  refine ⟨fun pins s σ H Q I h => ?_⟩
  refine wpAny_Call_Name_kw (ld_glob I hg hm ?_ hdb)
  exact PySem.W.callWith_K0 I.kIn hk (run_fnS (us := []) F hr hb (hx σ) I .nil h)
/-- C(..) where what is raised is wished for at the slots -/
def tMakeS (C : Addr) (sp : Sp) (E : St → XK) (t : TA) : TE := fun σ H Q => t σ H fun vs H1 => ∀ x dx, H1 x = none → H1 dx = none → dx ≠ x →
  sp (.ref x :: vs) (upd (upd H1 dx (.own x)) x (.ins C dx [])) (fun v H2 => v = .non ∧ Q (.ref x) H2) (E σ)
theorem run_makeS {pins : List (Addr × Obj)} {σ : St} {H : Hp} {s : Shared} {Q : VK} {us : List Value} {vs : List V} (M : Mk X.K C f) (F : FnOk X.prog X.w X.K X.mg X.base CX k f fd ps sp) (hr : Room (k + 1) X.A) (hb : Binds X.K fd ps [])
    (hx : PassesAt CX X σ (E σ)) (I : Inv X pins σ H s) (r : Vals vs us)
    (h : ∀ x dx, H x = none → H dx = none → dx ≠ x → sp (.ref x :: vs) (upd (upd H dx (.own x)) x (.ins C dx [])) (fun v H2 => v = .non ∧ Q (.ref x) H2) (E σ)) :
    wpAny (model X.prog X.w) X.A (call (.ref C) us) (EP X pins σ Q) X.xe s := by
  have hq := h (s.heap.objs.size + 1) s.heap.objs.size (I.hok.fresh (Nat.le_succ _)) (I.hok.fresh (Nat.le_refl _)) (Nat.ne_of_lt (Nat.lt_succ_self _))
  have I2 := Inv.made (C := C) I
  have r2 : Vals (V.ref (s.heap.objs.size + 1) :: vs) (Value.ref (s.heap.objs.size + 1) :: us) := .cons rfl r
  have hl : (Value.ref (s.heap.objs.size + 1) :: us ++ []).length = ps.length := by
    have e := r2.length
    rw [F.len _ _ _ _ hq] at e
    rw [List.append_nil]
    exact e.symm
  have b := hb _ (Value.ref (s.heap.objs.size + 1) :: us) I2.kIn hl
  rw [List.append_nil] at b
  refine wpAny_call (make_map (f := f) I.kIn M.makes M.init (beq_iff_eq.mp M.fn) (codeAny_mono (F.run _ X.stack _ _ ⟨Value.ref (s.heap.objs.size + 1) :: us, []⟩ (Value.ref (s.heap.objs.size + 1) :: us) _ _ (E σ) (hr.make C us [])
    (I2.env0.make C us []) b r2 hq) fun r s' hq' => ?_))
  cases r with
  | error e => exact hx pins _ _ e s' I2 hq'
  | ok fl =>
    cases fl with
    | ret u =>
      obtain ⟨v, H', I3, rv, ev, q3⟩ := I2.after hq'
      subst ev
      exact ⟨rv, ⟨V.ref (s.heap.objs.size + 1), H', I3, rfl, q3⟩⟩
    | next => exact False.elim hq'
    | brk => exact False.elim hq'
    | cont => exact False.elim hq'
theorem pe_makeS (M : Mk X.K C f) (F : FnOk X.prog X.w X.K X.mg X.base CX k f fd ps sp) (hr : Room (k + 1) X.A) (hg : Gl X x) (hm : X.mg x = some (.ref C)) (hb : Binds X.K fd ps []) (hx : ∀ σ, PassesAt CX X σ (E σ))
    (ha : PA X (e :: es) t) (hdb : (x == ("__debug__" : Str)) = false) (he : starEach (e :: es) X.env = (false, eval e X.env) :: starEach es X.env) (hpl : (backTo pos (starEach es X.env)).any (·.1) = false) :
    PE X (.Call (.Name x p) (e :: es) [] pos) (tMakeS C sp E t) := by
  refine ⟨fun pins s σ H Q I h => ?_⟩
  refine wpAny_Call_Name_kw (ld_glob I hg hm ?_ hdb)
  refine PySem.W.callWith_K (h₀ := X.base) I.ok.mod.kin M.kp (thn (ha.run pos pins s σ H _ I h) fun us s1 ⟨vs, H1, I1, r, q⟩ => ⟨I1.kIn, ?_⟩) he hpl
  exact run_makeS M F hr hb (hx σ) I1 r q
theorem pe_makeS0 (M : Mk X.K C f) (F : FnOk X.prog X.w X.K X.mg X.base CX k f fd ps sp) (hr : Room (k + 1) X.A) (hg : Gl X x) (hm : X.mg x = some (.ref C)) (hb : Binds X.K fd ps []) (hx : ∀ σ, PassesAt CX X σ (E σ))
    (hdb : (x == ("__debug__" : Str)) = false) : PE X (.Call (.Name x p) [] [] pos) (tMakeS C sp E tNil) := by
  refine ⟨fun pins s σ H Q I h => ?_⟩
  refine wpAny_Call_Name_kw (ld_glob I hg hm ?_ hdb)
  exact PySem.W.callWith_K0 I.kIn M.kp (run_makeS (us := []) M F hr hb (hx σ) I .nil h)
end

theorem star_cons {e : Expr} {es : List Expr} (env : Env) (h : noStar e = true) : starEach (e :: es) env = (false, eval e env) :: starEach es env := by
  cases e <;> first | rfl | cases h
theorem star_all {es : List Expr} (env : Env) (h : es.all noStar = true) : starEach es env = es.map fun e => (false, eval e env) := by
  induction es with
  | nil => rfl
  | cons e r ih =>
    simp only [List.all_cons, Bool.and_eq_true] at h
    rw [star_cons env h.1, ih h.2]
    rfl
theorem star_back {es : List Expr} (pos : Pos) (env : Env) (h : es.all noStar = true) : (backTo pos (starEach es env)).any (·.1) = false := by
  rw [star_all env h]
  unfold backTo
  induction es with
  | nil => rfl
  | cons e r ih =>
    simp only [List.all_cons, Bool.and_eq_true] at h
    simpa using ih h.2

def lkB (sc : Scope) (x : Str) (ks : List NameKind) : Bool := match sc.names.lookup x with
  | some k => ks.contains k
  | none => false
def visB (sc : Scope) (x : Str) : Bool := lkB sc x [.local, .cell, .free]
def glB (sc : Scope) (x : Str) : Bool := lkB sc x [.globalImplicit]
theorem glB_ok {X : Cx} {x : Str} (h : glB X.env.scope x = true) : Gl X x := by
  unfold glB lkB at h
  show X.env.scope.names.lookup x = some .globalImplicit
  split at h
  · rename_i k e
    rw [e]
    cases k <;> first | rfl | cases h
  · cases h
theorem visB_ok {sc : Scope} {x : Str} (h : visB sc x = true) : Vis sc x := by
  unfold visB lkB at h
  split at h
  · rename_i k e
    unfold Vis
    rw [e]
    cases k <;> first | exact .inl rfl | exact .inr (.inl rfl) | exact .inr (.inr rfl) | cases h
  · cases h
mutual
def pvB : PV → PV → Bool
  | .non, .non => true
  | .bl a, .bl b => a == b
  | .int a, .int b => a == b
  | .str a, .str b => decide (a = b)
  | .tup a, .tup b => pvBs a b
  | _, _ => false
def pvBs : List PV → List PV → Bool
  | [], [] => true
  | x :: xs, y :: ys => pvB x y && pvBs xs ys
  | _, _ => false
end
mutual
theorem pvB_ok : ∀ {x y : PV}, pvB x y = true → x = y
  | .non, y, h => by cases y <;> first | rfl | cases h
  | .bl a, y, h => by cases y <;> first | exact congrArg PV.bl (eq_of_beq h) | cases h
  | .int a, y, h => by cases y <;> first | exact congrArg PV.int (eq_of_beq h) | cases h
  | .str a, y, h => by cases y <;> first | exact congrArg PV.str (of_decide_eq_true h) | cases h
  | .tup a, y, h => by cases y <;> first | exact congrArg PV.tup (pvBs_ok h) | cases h
  | .ref _, y, h => by cases y <;> cases h
  | .ty _, y, h => by cases y <;> cases h
  | .tmp _, y, h => by cases y <;> cases h
  | .kl _, y, h => by cases y <;> cases h
theorem pvBs_ok : ∀ {x y : List PV}, pvBs x y = true → x = y
  | [], y, h => by cases y <;> first | rfl | cases h
  | a :: x, y, h => by
    cases y with
    | nil => cases h
    | cons b y =>
      have h' : (pvB a b && pvBs x y) = true := h
      rw [Bool.and_eq_true] at h'
      rw [pvB_ok h'.1, pvBs_ok h'.2]
end
def bfName : Bf → Str
  | .len => "len" | .abs => "abs" | .int => "int" | .str => "str" | .list => "list" | .tuple => "tuple" | .sum => "sum" | .max => "max" | .min => "min" | .all => "all" | .any => "any" | .sorted => "sorted"
  | .setl => "len" | .repr => "repr" | .dictp => "dict" | .range => "range"
def mCl (G : GS) (sc : Scope) : Cl → Expr → Bool
  | .bt n, .Name x _ => decide (x = Str.ofString n) && glB sc x && G.free.contains x && ["bool", "int", "str", "tuple", "list", "dict"].contains n
  | .own c, .Name x _ => decide (x = c) && glB sc x && G.owns.contains x && !(x == ("__debug__" : Str))
  | _, _ => false
def mCls (G : GS) (sc : Scope) : List Cl → List Expr → Bool
  | [], [] => true
  | c :: cs, e :: es => mCl G sc c e && mCls G sc cs es
  | _, _ => false
/-- an expression whose truth is its value's -/
def tstE : Expr → Bool
  | .Name .. => true | .Call .. => true | .Subscript .. => true | .Attribute .. => true
  | _ => false
def isBO : Expr → Bool
  | .BoolOp .. => true
  | _ => false
/-- an expression that may stand as a test -/
def tstOk : Expr → Bool
  | .BoolOp .. => true | .Compare .. => true | .UnaryOp .Not _ _ => true
  | e => tstE e
def plainIxE : Expr → Bool
  | .Slice .. => false
  | _ => true
mutual
/-- df: in a def itself (not in a comprehension's block) -/
def mTg (N : List Str) (sc : Scope) (df : Str → Bool) : Tg → Expr → Bool
  | .nm i, .Name x _ => decide (N[i]? = some x) && lkB sc x (if df x then [.local, .cell] else [.local])
  | .tp ts, .Tuple es _ _ => mTgs N sc df ts es
  | _, _ => false
def mTgs (N : List Str) (sc : Scope) (df : Str → Bool) : List Tg → List Expr → Bool
  | [], [] => true
  | t :: ts, e :: es => mTg N sc df t e && mTgs N sc df ts es
  | _, _ => false
end
def isTupE : Expr → Bool
  | .Tuple .. => true
  | _ => false
def noSet : Expr → Bool
  | .Set .. => false
  | _ => true

/-- no super() -/
def attB : Expr → Bool
  | .Call (.Name _ _) [] [] _ => false
  | _ => true
def bmName : Bm → Str
  | .append => "append" | .pop => "pop" | .popAt => "pop" | .extend => "extend" | .insert => "insert" | .index => "index" | .count => "count" | .split => "split" | .join => "join" | .upper => "upper" | .get2 => "get" | .clear => "clear" | .replace => "replace"
def bmOk : List Bm := [.append, .pop, .extend, .split, .join, .count, .index]
mutual
def tgV : Tg → List Nat
  | .nm i => [i]
  | .tp ts => tgVs ts
def tgVs : List Tg → List Nat
  | [] => []
  | t :: ts => tgV t ++ tgVs ts
end
def noCallE : Expr → Bool
  | .Call .. => false
  | _ => true
structure Cst where
  G : GS
  N : List Str
  hot : Nat

/-- the class that is asked of a caught exception -/
def mXc (G : GS) (sc : Scope) : Cl → Expr → Bool
  | .bt n, .Name x _ => decide (x = Str.ofString n) && glB sc x && G.free.contains x && decide (n = "ValueError")
  | .own c, .Name x _ => decide (x = c) && glB sc x && G.excs.contains x && !(x == ("__debug__" : Str))
  | _, _ => false
/-- a lambda without parameters -/
def lamB : Arguments → Bool
  | ⟨[], [], none, [], [], none, []⟩ => true
  | _ => false
theorem lamB_ok {ps : Arguments} (h : lamB ps = true) : ps = ⟨[], [], none, [], [], none, []⟩ := by
  unfold lamB at h
  split at h
  · rfl
  · cases h
/-- the sources that a walk has -/
def ikArgs (G : GS) (k : IK) (sc : Scope) (pt pi : Expr) : Option (List Expr) := match k, pi with
  | .seq, p => some [p]
  | .rng, .Call (.Name x _) ps [] _ => if decide (x = ("range" : Str)) && G.free.contains x && glB sc x && (decide (ps.length = 1) || decide (ps.length = 2)) then some ps else none
  | .enum, .Call (.Name x _) ps [] _ => if decide (x = ("enumerate" : Str)) && G.free.contains x && glB sc x && decide (ps.length = 1) && isTupE pt then some ps else none
  | .zip, .Call (.Name x _) ps [] _ => if decide (x = ("zip" : Str)) && G.free.contains x && glB sc x && decide (ps.length = 2) && isTupE pt then some ps else none
  | .zip4, .Call (.Name x _) ps [] _ => if decide (x = ("zip" : Str)) && G.free.contains x && glB sc x && decide (ps.length = 4) && isTupE pt then some ps else none
  | .enumzip, .Call (.Name x _) [.Call (.Name y _) ps [] _] [] _ => if decide (x = ("enumerate" : Str)) && decide (y = ("zip" : Str)) && G.free.contains x && glB sc x && G.free.contains y && glB sc y && decide (ps.length = 2) && isTupE pt then some ps else none
  | _, _ => none
/-- .. while an exception is handled -/
def hotArgs (G : GS) (k : IK) (sc : Scope) (pt pi : Expr) : Option (List Expr) := match k, pi with
  | .zipL, .Call (.Name x _) ps [] _ => if decide (x = ("zip" : Str)) && G.free.contains x && glB sc x && decide (ps.length = 2) && isTupE pt then some ps else none
  | _, _ => none
def varB : E → Bool
  | .var _ => true
  | _ => false
def varsB : List E → Bool
  | [] => true
  | [e] => varB e
  | _ => false
section
variable (c : Cst)
mutual
def mE : E → Scope → Expr → Bool
  | .var i, sc, .Name x _ => decide (c.N[i]? = some x) && visB sc x && !(x == ("__debug__" : Str)) && !(x == ("__classdict__" : Str))
  | .cst (.int i), _, .Constant (.int j) _ _ => i == j
  | .cst (.str x), _, .Constant (.str y) _ _ => decide (x = y) && decide (x.length ≤ 1000)
  | .cst (.bl a), _, .Constant (.bool b) _ _ => a == b
  | .cst .non, _, .Constant .none _ _ => true
  | .gc x v, sc, .Name y _ => decide (x = y) && glB sc y && (c.G.consts.any fun p => decide (p.1 = x) && pvB p.2 v) && !(y == ("__debug__" : Str))
  | .tup es, sc, .Tuple ps _ _ => mEs es sc ps
  | .lst es, sc, .List ps _ => mEs es sc ps
  | .dct [] [], _, .Dict [] [] _ => true
  | .bin op a b, sc, .BinOp p o q _ => decide (o = pyOp op) && mE a sc p && mE b sc q
  | .neg a, sc, .UnaryOp .USub p _ => mE a sc p
  | .not a, sc, .UnaryOp .Not p _ => mE a sc p && tstOk p
  | .and a b, sc, .BoolOp .And (p :: q :: r) pos => mE a sc p && tstOk p && (match r with
    | [] => mE b sc q && tstOk q
    | r => mE b sc (.BoolOp .And (q :: r) pos))
  | .or a b, sc, .BoolOp .Or (p :: q :: r) pos => mE a sc p && tstOk p && (match r with
    | [] => mE b sc q && tstOk q
    | r => mE b sc (.BoolOp .Or (q :: r) pos))
  | .cmp op a b, sc, .Compare p [o] [q] _ => decide (o = pyCop op) && mE a sc p && mE b sc q && !behindInMarks o q
  | .chn op op' a b d, sc, .Compare p [o, o'] [q, r] _ => decide (o = pyCop op) && decide (o' = pyCop op') && mE a sc p && mE b sc q && mE d sc r && !lastMarks [o, o'] [q, r]
  | .ite t a b, sc, .IfExp r p q _ => mE t sc r && tstOk r && mE a sc p && mE b sc q
  | .call f as, sc, .Call (.Name x _) es [] _ => c.G.fns.contains (f, x, none) && glB sc x && mEs as sc es && es.all noStar && !(x == ("__debug__" : Str)) && decide (c.hot = 0)
  | .new n f as, sc, .Call (.Name x _) es [] _ => decide (x = n) && c.G.makes.contains (n, f) && glB sc x && mEs as sc es && es.all noStar && !(x == ("__debug__" : Str)) && decide (c.hot = 0)
  | .hcall f as, sc, .Call (.Name x _) es [] _ => c.G.hfs.contains (f, x) && glB sc x && mEs as sc es && es.all noStar && !es.isEmpty && !(x == ("__debug__" : Str)) && decide (c.hot = 2)
  | .bf b as, sc, .Call (.Name x _) es [] _ => decide (x = bfName b) && c.G.free.contains x && glB sc x && mEs as sc es && es.all noStar && !es.isEmpty && (decide (c.hot = 0) || bfCool b)
  | .isi e cs ts false, sc, .Call (.Name x _) [p, q] [] _ => decide (x = ("isinstance" : Str)) && c.G.free.contains x && glB sc x && mE e sc p && noStar p && mCls c.G sc cs [q] && cs.all c.G.asked.contains && ts.all c.G.classes.contains
  | .isi e cs ts true, sc, .Call (.Name x _) [p, .Tuple qs _ _] [] _ => decide (x = ("isinstance" : Str)) && c.G.free.contains x && glB sc x && mE e sc p && noStar p && mCls c.G sc cs qs && cs.all c.G.asked.contains && ts.all c.G.classes.contains && decide (cs.length ≤ 1000)
  | .lset e, sc, .Call (.Name x _) [.Call (.Name y _) [p] [] _] [] _ => decide (x = ("len" : Str)) && decide (y = ("set" : Str)) && c.G.free.contains x && c.G.free.contains y && glB sc x && glB sc y && mE e sc p && noStar p && decide (c.hot = 0)
  | .bm m o as, sc, .Call (.Attribute p n ap) es [] pos => decide (n = bmName m) && mE o sc p && mEs as sc es && es.all noStar && attB p && decide (es.length < 30) && (ap.endLine == pos.line) && bmOk.contains m
  | .meth n m f o as, sc, .Call (.Attribute p g ap) es [] pos => decide (g = m) && c.G.fns.contains (f, n, some m) && c.G.meths.contains (n, m) && mE o sc p && mEs as sc es && es.all noStar && attB p && decide (es.length < 30) && (ap.endLine == pos.line) && decide (c.hot = 0)
  | .oeq false n f a b, sc, .Compare p [o] [q] _ => decide (o = .Eq) && c.G.fns.contains (f, n, some ("__eq__" : Str)) && c.G.meths.contains (n, ("__eq__" : Str)) && mE a sc p && mE b sc q && !behindInMarks o q && decide (c.hot = 0)
  | .oeq true n f a b, sc, .Compare p [o] [q] _ => decide (o = .NotEq) && c.G.fns.contains (f, n, some ("__eq__" : Str)) && c.G.meths.contains (n, ("__eq__" : Str)) && mE a sc p && mE b sc q && !behindInMarks o q && decide (c.hot = 0)
  | .fld n o f, sc, .Attribute p g _ => decide (f = g) && c.G.flds.contains (n, f) && mE o sc p && noCallE p
  | .idx o i, sc, .Subscript p q _ => mE o sc p && mE i sc q && plainIxE q
  | .slc o lo hi, sc, .Subscript p (.Slice l h none _) _ => mE o sc p && mO lo sc l && mO hi sc h
  | .comp k src tg own cond elt, sc, .ListComp pe [⟨pt, pi, pf, 0⟩] scope _ =>
    let sc' := relS scope sc
    (match (if c.hot = 0 then ikArgs c.G k sc pt pi else hotArgs c.G k sc pt pi) with | some ps => mEs src sc ps | none => false) && noSet pi && mTg c.N sc' (fun x => scope.names.lookup x == some .cell) tg pt && (tgV tg).all own.contains && blkC c.N sc scope (own.filterMap fun i => (c.N[i]?).map fun x => (x, i)) &&
      decide ((own.filterMap fun i => (c.N[i]?).map fun x => (x, i)).map (·.2) = own) && mCs cond sc' pf && mE elt sc' pe && (decide (c.hot = 0) || (decide (c.hot = 2) && varsB cond && varB elt))
  | .flat i j own e, sc, .ListComp (.Name y py) [⟨.Name x px, pi, [], 0⟩, ⟨.Name y2 py2, .Name x2 px2, [], 0⟩] scope _ =>
    let sc' := relS scope sc
    decide (c.hot = 0) && mE e sc pi && noSet pi && decide (y2 = y) && decide (x2 = x) && !decide (i = j) && own.contains i && own.contains j &&
      mTg c.N sc' (fun x => scope.names.lookup x == some .cell) (.nm i) (.Name x px) && mTg c.N sc' (fun x => scope.names.lookup x == some .cell) (.nm j) (.Name y2 py2) && visB sc' x && visB sc' y &&
      !(x == ("__debug__" : Str)) && !(x == ("__classdict__" : Str)) && !(y == ("__debug__" : Str)) && !(y == ("__classdict__" : Str)) &&
      blkC c.N sc scope (own.filterMap fun i => (c.N[i]?).map fun x => (x, i)) && decide ((own.filterMap fun i => (c.N[i]?).map fun x => (x, i)).map (·.2) = own)
  | .isx e cl, sc, .Call (.Name x _) [p, q] [] _ => decide (x = ("isinstance" : Str)) && c.G.free.contains x && glB sc x && mE e sc p && noStar p && mXc c.G sc cl q && c.G.exask.contains cl && decide (c.hot = 2)
  | .act i, _, .Call (.Name x _) [] [] _ => decide (i = 0) && decide (c.N[0]? = some x) && decide (c.hot = 1)
  | .lamc f body, sc, .Call (.Name x _) [.Lambda ps b lsc _] [] _ => decide (c.hot = 0) && c.G.lfs.contains (f, x) && glB sc x && !(x == ("__debug__" : Str)) && lamB ps && LamX.lamSB sc lsc && mE body lsc b
  | _, _, _ => false
def mEs : List E → Scope → List Expr → Bool
  | [], _, [] => true
  | e :: es, sc, p :: ps => mE e sc p && noStar p && mEs es sc ps
  | _, _, _ => false
def mO : Option E → Scope → Option Expr → Bool
  | none, _, none => true
  | some e, sc, some p => mE e sc p
  | _, _, _ => false
def mCs : List E → Scope → List Expr → Bool
  | [], _, [] => true
  | [e], sc, [p] => mE e sc p && tstOk p
  | _, _, _ => false
end
end
end G

namespace G
open PySem PySem.Spec PyProof.Rows L2
variable [tb : Tb]

def TB (K : PySem.W.Frag) (W : WX) (wp : PE_ → PM → Post → XPost → Prop) : TT := fun σ H Q => ∃ ρ μ P X, RepE K H ρ σ ∧ RepH K H μ ∧ wp ρ μ P X ∧
  (∀ v μ' w H', Res K H μ' H' v w → RepH K H' μ' → Ext μ H μ' H' → P v μ' → ∃ b, v = .bl b ∧ Q b H') ∧ XCont K W σ μ H X
/-- a list of results as they come -/
def TAr (K : PySem.W.Frag) (W : WX) (wp : PE_ → PM → (List PV → PM → Prop) → XPost → Prop) : TA := fun σ H Q => ∃ ρ μ P X, RepE K H ρ σ ∧ RepH K H μ ∧ wp ρ μ P X ∧
  (∀ vs μ' ws H', Ress K H μ' H' vs ws → RepH K H' μ' → Ext μ H μ' H' → P vs μ' → Q ws H') ∧ XCont K W σ μ H X
def TOo (K : PySem.W.Frag) (W : WX) (wp : PE_ → PM → (Option Int → PM → Prop) → XPost → Prop) : TO := fun σ H Q => ∃ ρ μ P X, RepE K H ρ σ ∧ RepH K H μ ∧ wp ρ μ P X ∧
  (∀ o μ' H', RepH K H' μ' → Ext μ H μ' H' → P o μ' → Q o H') ∧ XCont K W σ μ H X

section
variable {K : PySem.W.Frag} {W : WX} {σ : St} {H : Hp} {Q : VK} {wa wb : PE_ → PM → Post → XPost → Prop}
theorem seq2 {g : PV → PV → PM → Post → Prop} {R : R2} (r : ∀ (H0 : Hp) (μ : PM) (H : Hp) (x y : PV) (w u : V) (P : Post) (Q : VK), RepH K H μ → Res K H0 μ H x w → Res K H0 μ H y u → Cont K μ H P Q → g x y μ P → R w u H Q)
    (h : T K W (fun ρ μ P X => wa ρ μ (fun x μ1 => wb ρ μ1 (fun y μ2 => g x y μ2 P) X) X) σ H Q) : T K W wa σ H (fun w H1 => T K W wb σ H1 (fun u H2 => R w u H2 Q)) := by
  obtain ⟨ρ, μ, P, X, hρ, m, h, c, cx⟩ := h
  refine T.go hρ m h cx fun v1 μ1 w1 H1 r1 m1 e1 hρ1 cx1 p1 => ?_
  refine T.go hρ1 m1 p1 cx1 fun v2 μ2 w2 H2 r2 m2 e2 hρ2 cx2 p2 => ?_
  exact r H μ2 H2 v1 v2 w1 w2 P Q m2 (r1.ext m1 e2) (r2.back e1.dom) (c.pre (e1.trans e2)) p2
theorem seq1 {g : PV → PM → Post → Prop} {R : V → Hp → VK → Prop} (r : ∀ (H0 : Hp) (μ : PM) (H : Hp) (x : PV) (w : V) (P : Post) (Q : VK), RepH K H μ → Res K H0 μ H x w → Cont K μ H P Q → g x μ P → R w H Q)
    (h : T K W (fun ρ μ P X => wa ρ μ (fun x μ1 => g x μ1 P) X) σ H Q) : T K W wa σ H (fun w H1 => R w H1 Q) := by
  obtain ⟨ρ, μ, P, X, hρ, m, h, c, cx⟩ := h
  refine T.go hρ m h cx fun v1 μ1 w1 H1 r1 m1 e1 hρ1 cx1 p1 => ?_
  exact r H μ1 H1 v1 w1 P Q m1 r1 (c.pre e1) p1
end

section
variable {X : Cx} {W : WX} {p q r : Expr} {pos : Pos} {wa wb wc : PE_ → PM → Post → XPost → Prop}
theorem c_bin {op : Op} (ha : PE X p (T X.K W wa)) (hb : PE X q (T X.K W wb)) : PE X (.BinOp p (pyOp op) q pos) (T X.K W fun ρ μ P Y => wa ρ μ (fun x μ1 => wb ρ μ1 (fun y μ2 => binW op x y μ2 P) Y) Y) := by
  obtain ⟨r, ho, hr⟩ := g_op (X := X) op
  exact (pe_op ho ha hb).imp fun σ H Q h => seq2 (g := binW op) hr h
theorem c_cmp (hk : X.A.units + 64 < cLine) {op : Cop} (ha : PE X p (T X.K W wa)) (hb : PE X q (T X.K W wb)) (hm : behindInMarks (pyCop op) q = false) : PE X (.Compare p [pyCop op] [q] pos) (T X.K W fun ρ μ P Y => wa ρ μ (fun x μ1 => wb ρ μ1 (fun y μ2 => cmpW op x y μ2 P) Y) Y) := by
  obtain ⟨r, ho, hr⟩ := g_cop (X := X) hk op
  exact (pe_cmpR ho ha hb hm).imp fun σ H Q h => seq2 (g := cmpW op) hr h
theorem tb_t {wp : PE_ → PM → Post → XPost → Prop} {K : PySem.W.Frag} {σ : St} {H : Hp} {Q : Bool → Hp → Prop} (h : TB K W wp σ H Q) : T K W wp σ H (fun x H1 => ∃ c, x = .bl c ∧ Q c H1) := by
  obtain ⟨ρ, μ, P, X, hρ, m, h, c, cx⟩ := h
  refine ⟨ρ, μ, P, X, hρ, m, h, fun v μ' w H' r m' e p => ?_, cx⟩
  obtain ⟨b, rfl, q⟩ := c v μ' w H' r m' e p
  exact ⟨b, r, q⟩
theorem ct_cmp (hk : X.A.units + 64 < cLine) {op : Cop} (ha : PE X p (T X.K W wa)) (hb : PE X q (T X.K W wb)) (hm : behindInMarks (pyCop op) q = false) : PT X (.Compare p [pyCop op] [q] pos) (TB X.K W fun ρ μ P Y => wa ρ μ (fun x μ1 => wb ρ μ1 (fun y μ2 => cmpW op x y μ2 P) Y) Y) := by
  obtain ⟨r, ho, hr⟩ := g_cop (X := X) hk op
  exact (pt_cmpR ho ha hb hm).imp fun σ H Q h => seq2 (g := cmpW op) hr (tb_t h)
theorem ct_val (ha : PE X p (T X.K W wa)) (h : tstE p = true) : PT X p (TB X.K W wa) := by
  refine (pt_val ha fun whole => ?_).imp fun σ H Q h => tb_t h
  cases p <;> first | rfl | cases h
theorem chn_red {K : PySem.W.Frag} {op op' : Cop} {r r' : R2} {σ : St} {H : Hp} {Q : VK} (h1 : ∀ (H0 : Hp) (μ : PM) (H : Hp) (x y : PV) (w u : V) (P : Post) (Q : VK), RepH K H μ → Res K H0 μ H x w → Res K H0 μ H y u → Cont K μ H P Q → cmpW op x y μ P → r w u H Q)
    (h2 : ∀ (H0 : Hp) (μ : PM) (H : Hp) (x y : PV) (w u : V) (P : Post) (Q : VK), RepH K H μ → Res K H0 μ H x w → Res K H0 μ H y u → Cont K μ H P Q → cmpW op' x y μ P → r' w u H Q)
    (h : T K W (fun ρ μ P Y => wa ρ μ (fun x μ1 => wb ρ μ1 (fun y μ2 => cmpW op x y μ2 fun z μ3 => ∃ k, z = .bl k ∧ if k = true then wc ρ μ3 (fun w μ4 => cmpW op' y w μ4 P) Y else P (.bl false) μ3) Y) Y) σ H Q) :
    tChain r r' (T K W wa) (T K W wb) (T K W wc) σ H Q := by
  obtain ⟨ρ, μ, P, Y, hρ, m, h, c, cx⟩ := h
  refine T.go hρ m h cx fun v1 μ1 w1 H1 r1 m1 e1 hρ1 cx1 p1 => ?_
  refine T.go hρ1 m1 p1 cx1 fun v2 μ2 w2 H2 r2 m2 e2 hρ2 cx2 p2 => ?_
  refine h1 H μ2 H2 v1 v2 w1 w2 _ _ m2 (r1.ext m1 e2) (r2.back e1.dom) (fun v3 μ3 w3 H3 r3 m3 e3 p3 => ?_) p2
  obtain ⟨k, rfl, p3⟩ := p3
  refine ⟨k, r3, ?_⟩
  have cx3 := cx2.pre e3
  have hρ3 := hρ2.mono (e3.tup m2)
  cases k with
  | true =>
    rw [if_pos rfl] at p3 ⊢
    refine T.go hρ3 m3 p3 cx3 fun v4 μ4 w4 H4 r4 m4 e4 hρ4 cx4 p4 => ?_
    exact h2 H μ4 H4 v2 v4 w2 w4 P Q m4 (((r2.back e1.dom).ext m2 e3).ext m3 e4) (((r4.back e3.dom).back e2.dom).back e1.dom) (c.pre (((e1.trans e2).trans e3).trans e4)) p4
  | false =>
    rw [if_neg Bool.false_ne_true] at p3 ⊢
    exact (c.pre ((e1.trans e2).trans e3)).bl m3 p3
theorem c_chn (hk : X.A.units + 64 < cLine) {op op' : Cop} (ha : PE X p (T X.K W wa)) (hb : PE X q (T X.K W wb)) (hc : PE X r (T X.K W wc)) (hm : lastMarks [pyCop op, pyCop op'] [q, r] = false) :
    PE X (.Compare p [pyCop op, pyCop op'] [q, r] pos) (T X.K W fun ρ μ P Y => wa ρ μ (fun x μ1 => wb ρ μ1 (fun y μ2 => cmpW op x y μ2 fun z μ3 => ∃ k, z = .bl k ∧ if k = true then wc ρ μ3 (fun w μ4 => cmpW op' y w μ4 P) Y else P (.bl false) μ3) Y) Y) := by
  obtain ⟨r1, ho1, hr1⟩ := g_cop (X := X) hk op
  obtain ⟨r2, ho2, hr2⟩ := g_cop (X := X) hk op'
  exact (pe_chain ho1 ho2 ha hb hc hm).imp fun σ H Q h => chn_red hr1 hr2 h
theorem ct_chn (hk : X.A.units + 64 < cLine) {op op' : Cop} (ha : PE X p (T X.K W wa)) (hb : PE X q (T X.K W wb)) (hc : PE X r (T X.K W wc)) (hm : lastMarks [pyCop op, pyCop op'] [q, r] = false) :
    PT X (.Compare p [pyCop op, pyCop op'] [q, r] pos) (TB X.K W fun ρ μ P Y => wa ρ μ (fun x μ1 => wb ρ μ1 (fun y μ2 => cmpW op x y μ2 fun z μ3 => ∃ k, z = .bl k ∧ if k = true then wc ρ μ3 (fun w μ4 => cmpW op' y w μ4 P) Y else P (.bl false) μ3) Y) Y) := by
  obtain ⟨r1, ho1, hr1⟩ := g_cop (X := X) hk op
  obtain ⟨r2, ho2, hr2⟩ := g_cop (X := X) hk op'
  exact (pt_chain ho1 ho2 ha hb hc hm).imp fun σ H Q h => chn_red hr1 hr2 (tb_t h)
theorem c_neg (ha : PE X p (T X.K W wa)) : PE X (.UnaryOp .USub p pos) (T X.K W fun ρ μ P Y => wa ρ μ (fun x μ1 => ∃ i, x = .int i ∧ P (.int (-i)) μ1) Y) :=
  (pe_un un_neg ha).imp fun σ H Q h => seq1 (g := fun x μ P => ∃ i, x = .int i ∧ P (.int (-i)) μ) (fun H0 μ H x w P Q m r c h => by
    obtain ⟨i, rfl, h⟩ := h
    exact ⟨i, r, c.int m h⟩) h
theorem c_not (ha : PE X p (T X.K W wa)) : PE X (.UnaryOp .Not p pos) (T X.K W fun ρ μ P Y => wa ρ μ (fun x μ1 => ∃ b, x = .bl b ∧ P (.bl (!b)) μ1) Y) :=
  (pe_not ha).imp fun σ H Q h => seq1 (g := fun x μ P => ∃ b, x = .bl b ∧ P (.bl (!b)) μ) (R := fun w H Q => ∃ c, w = .bl c ∧ Q (.bl (!c)) H) (fun H0 μ H x w P Q m r c h => by
    obtain ⟨i, rfl, h⟩ := h
    exact ⟨i, r, c.bl m h⟩) h
theorem ct_not (ha : PT X p (TB X.K W wa)) : PT X (.UnaryOp .Not p pos) (TB X.K W fun ρ μ P Y => wa ρ μ (fun x μ1 => ∃ b, x = .bl b ∧ P (.bl (!b)) μ1) Y) :=
  (pt_not ha).imp fun σ H Q h => by
    obtain ⟨ρ, μ, P, Y, hρ, m, h, c, cx⟩ := h
    refine ⟨ρ, μ, _, Y, hρ, m, h, fun v μ' w H' r m' e p => ?_, cx⟩
    obtain ⟨b, rfl, q⟩ := p
    obtain ⟨b', e2, q2⟩ := c (.bl (!b)) μ' (.bl (!b)) H' rfl m' e q
    cases e2
    exact ⟨b, rfl, q2⟩
theorem c_and {rest : List Expr} (ha : PE X p (T X.K W wa)) (hb : PE X (.BoolOp .And (q :: rest) pos) (T X.K W wb)) :
    PE X (.BoolOp .And (p :: q :: rest) pos) (T X.K W fun ρ μ P Y => wa ρ μ (fun x μ1 => ∃ c, x = .bl c ∧ if c = true then wb ρ μ1 P Y else P (.bl false) μ1) Y) :=
  (pe_and ha hb).imp fun σ H Q h => by
    obtain ⟨ρ, μ, P, Y, hρ, m, h, c, cx⟩ := h
    refine T.go hρ m h cx fun v1 μ1 w1 H1 r1 m1 e1 hρ1 cx1 p1 => ?_
    obtain ⟨b, rfl, p1⟩ := p1
    refine ⟨b, r1, ?_⟩
    cases b with
    | true => exact ⟨ρ, μ1, P, Y, hρ1, m1, p1, c.pre e1, cx1⟩
    | false => exact (c.pre e1).bl m1 p1
theorem c_or {rest : List Expr} (ha : PE X p (T X.K W wa)) (hb : PE X (.BoolOp .Or (q :: rest) pos) (T X.K W wb)) :
    PE X (.BoolOp .Or (p :: q :: rest) pos) (T X.K W fun ρ μ P Y => wa ρ μ (fun x μ1 => ∃ c, x = .bl c ∧ if c = true then P (.bl true) μ1 else wb ρ μ1 P Y) Y) :=
  (pe_or ha hb).imp fun σ H Q h => by
    obtain ⟨ρ, μ, P, Y, hρ, m, h, c, cx⟩ := h
    refine T.go hρ m h cx fun v1 μ1 w1 H1 r1 m1 e1 hρ1 cx1 p1 => ?_
    obtain ⟨b, rfl, p1⟩ := p1
    refine ⟨b, r1, ?_⟩
    cases b with
    | false => exact ⟨ρ, μ1, P, Y, hρ1, m1, p1, c.pre e1, cx1⟩
    | true => exact (c.pre e1).bl m1 p1
theorem cw_and {rest : List Expr} (ha : PT X p (TB X.K W wa)) (hb : PW X (.BoolOp .And (q :: rest) pos) (TB X.K W wb)) :
    PW X (.BoolOp .And (p :: q :: rest) pos) (TB X.K W fun ρ μ P Y => wa ρ μ (fun x μ1 => ∃ c, x = .bl c ∧ if c = true then wb ρ μ1 P Y else P (.bl false) μ1) Y) := by
  refine ⟨fun wh pins s σ H Q I h => (pw_and ha hb).run wh pins s σ H Q I ?_⟩
  obtain ⟨ρ, μ, P, Y, hρ, m, h, c, cx⟩ := h
  refine ⟨ρ, μ, _, Y, hρ, m, h, fun v1 μ1 w1 H1 r1 m1 e1 p1 => ?_, cx⟩
  obtain ⟨b, rfl, p1⟩ := p1
  refine ⟨b, rfl, ?_⟩
  cases b with
  | true => exact ⟨ρ, μ1, P, Y, hρ.mono (e1.tup m), m1, p1, fun v2 μ2 w2 H2 r2 m2 e2 p2 => c v2 μ2 w2 H2 (r2.back e1.dom) m2 (e1.trans e2) p2, cx.pre e1⟩
  | false =>
    obtain ⟨b, e, q⟩ := c (.bl false) μ1 (.bl false) H1 rfl m1 e1 p1
    cases e
    exact q
theorem cw_or {rest : List Expr} (ha : PT X p (TB X.K W wa)) (hb : PW X (.BoolOp .Or (q :: rest) pos) (TB X.K W wb)) :
    PW X (.BoolOp .Or (p :: q :: rest) pos) (TB X.K W fun ρ μ P Y => wa ρ μ (fun x μ1 => ∃ c, x = .bl c ∧ if c = true then P (.bl true) μ1 else wb ρ μ1 P Y) Y) := by
  refine ⟨fun wh pins s σ H Q I h => (pw_or ha hb).run wh pins s σ H Q I ?_⟩
  obtain ⟨ρ, μ, P, Y, hρ, m, h, c, cx⟩ := h
  refine ⟨ρ, μ, _, Y, hρ, m, h, fun v1 μ1 w1 H1 r1 m1 e1 p1 => ?_, cx⟩
  obtain ⟨b, rfl, p1⟩ := p1
  refine ⟨b, rfl, ?_⟩
  cases b with
  | false => exact ⟨ρ, μ1, P, Y, hρ.mono (e1.tup m), m1, p1, fun v2 μ2 w2 H2 r2 m2 e2 p2 => c v2 μ2 w2 H2 (r2.back e1.dom) m2 (e1.trans e2) p2, cx.pre e1⟩
  | true =>
    obtain ⟨b, e, q⟩ := c (.bl true) μ1 (.bl true) H1 rfl m1 e1 p1
    cases e
    exact q
theorem c_ite (hc : PT X r (TB X.K W wc)) (ha : PE X p (T X.K W wa)) (hb : PE X q (T X.K W wb)) :
    PE X (.IfExp r p q pos) (T X.K W fun ρ μ P Y => wc ρ μ (fun x μ1 => ∃ k, x = .bl k ∧ if k = true then wa ρ μ1 P Y else wb ρ μ1 P Y) Y) :=
  (pe_ifExp hc ha hb).imp fun σ H Q h => by
    obtain ⟨ρ, μ, P, Y, hρ, m, h, c, cx⟩ := h
    refine ⟨ρ, μ, _, Y, hρ, m, h, fun v1 μ1 w1 H1 r1 m1 e1 p1 => ?_, cx⟩
    obtain ⟨b, rfl, p1⟩ := p1
    refine ⟨b, rfl, ?_⟩
    cases b with
    | true => exact ⟨ρ, μ1, P, Y, hρ.mono (e1.tup m), m1, p1, c.pre e1, cx.pre e1⟩
    | false => exact ⟨ρ, μ1, P, Y, hρ.mono (e1.tup m), m1, p1, c.pre e1, cx.pre e1⟩
theorem am_nil : PA X [] (TAm X.K W fun ρ μ P Y => P [] μ) := pa_nil.imp fun σ H Q h => by
  obtain ⟨ρ, μ, P, Y, hρ, m, h, c, cx⟩ := h
  exact c [] μ [] H RepVs.nil m Ext.refl h
theorem am_cons {ps : List Expr} {ws : PE_ → PM → (List PV → PM → Prop) → XPost → Prop} (ha : PE X p (T X.K W wa)) (hr : PA X ps (TAm X.K W ws)) (hs : noStar p = true) :
    PA X (p :: ps) (TAm X.K W fun ρ μ P Y => wa ρ μ (fun v μ1 => mat v μ1 fun v' μ2 => ws ρ μ2 (fun vs μ3 => P (v' :: vs) μ3) Y) Y) :=
  (pa_cons ha hr (star_cons _ hs)).imp fun σ H Q h => by
    obtain ⟨ρ, μ, P, Y, hρ, m, h, c, cx⟩ := h
    refine T.go hρ m h cx fun v1 μ1 w1 H1 r1 m1 e1 hρ1 cx1 p1 => ?_
    refine mat_rep m1 r1 e1.dom p1 fun v' μ2 r2 m2 e2 p2 => ?_
    have e12 := e2 μ e1
    refine ⟨ρ, μ2, _, Y, hρ1, m2, p2, fun vs μ3 us H3 r3 m3 e3 p3 => ?_, cx.pre e12⟩
    exact c (v' :: vs) μ3 (w1 :: us) H3 (RepVs.cons (r2.mono (e3.tup m2)) r3) m3 (e12.trans e3) p3
theorem ar_nil : PA X [] (TAr X.K W fun ρ μ P Y => P [] μ) := pa_nil.imp fun σ H Q h => by
  obtain ⟨ρ, μ, P, Y, hρ, m, h, c, cx⟩ := h
  exact c [] μ [] H rfl m Ext.refl h
theorem ress_back {K : PySem.W.Frag} {H0 H1 H2 : Hp} {μ : PM} (d : ∀ a, H1 a = none → H0 a = none) : ∀ {xs : List PV} {ws : List V}, Ress K H1 μ H2 xs ws → Ress K H0 μ H2 xs ws
  | [], _, h => h
  | x :: xs, _, h => by
    obtain ⟨w, r, rfl, h1, h2⟩ := h
    exact ⟨w, r, rfl, h1.back d, ress_back d h2⟩
theorem ar_cons {ps : List Expr} {ws : PE_ → PM → (List PV → PM → Prop) → XPost → Prop} (ha : PE X p (T X.K W wa)) (hr : PA X ps (TAr X.K W ws)) (hs : noStar p = true) :
    PA X (p :: ps) (TAr X.K W fun ρ μ P Y => wa ρ μ (fun v μ1 => ws ρ μ1 (fun vs μ3 => P (v :: vs) μ3) Y) Y) :=
  (pa_cons ha hr (star_cons _ hs)).imp fun σ H Q h => by
    obtain ⟨ρ, μ, P, Y, hρ, m, h, c, cx⟩ := h
    refine T.go hρ m h cx fun v1 μ1 w1 H1 r1 m1 e1 hρ1 cx1 p1 => ?_
    refine ⟨ρ, μ1, _, Y, hρ1, m1, p1, fun vs μ3 us H3 r3 m3 e3 p3 => ?_, cx1⟩
    exact c (v1 :: vs) μ3 (w1 :: us) H3 ⟨w1, us, rfl, r1.ext m1 e3, ress_back e1.dom r3⟩ m3 (e1.trans e3) p3
theorem le_line {n : Nat} (h : n ≤ 1000) : n ≤ sizeLine := Nat.le_trans h (by rw [sizeLine_eq]; decide)
theorem c_tup {ps : List Expr} {kk : Nat} {ws : PE_ → PM → (List PV → PM → Prop) → XPost → Prop} (ha : PA X ps (TAm X.K W ws)) :
    PE X (.Tuple ps kk pos) (T X.K W fun ρ μ P Y => ws ρ μ (fun vs μ' => vs.length ≤ 1000 ∧ P (.tup vs) μ') Y) :=
  (pe_tup ha).imp fun σ H Q h => by
    obtain ⟨ρ, μ, P, Y, hρ, m, h, c, cx⟩ := h
    refine ⟨ρ, μ, _, Y, hρ, m, h, fun vs μ' ws H' r m' e p => ?_, cx⟩
    exact ⟨by rw [← r.length]; exact le_line p.1, fun q nq => (c.pre e).tup m' nq r (le_line p.1) p.2⟩
theorem c_lst {ps : List Expr} {ws : PE_ → PM → (List PV → PM → Prop) → XPost → Prop} (ha : PA X ps (TAm X.K W ws)) :
    PE X (.List ps pos) (T X.K W fun ρ μ P Y => ws ρ μ (fun vs μ' => vs.length ≤ 1000 ∧ P (.tmp vs) μ') Y) :=
  (pe_lst ha).imp fun σ H Q h => by
    obtain ⟨ρ, μ, P, Y, hρ, m, h, c, cx⟩ := h
    refine ⟨ρ, μ, _, Y, hρ, m, h, fun vs μ' ws H' r m' e p => ?_, cx⟩
    exact ⟨by rw [← r.length]; exact le_line p.1, fun q nq => (c.pre e).tmp m' nq r (le_line p.1) p.2⟩
theorem c_dct : PE X (.Dict [] [] pos) (T X.K W fun ρ μ P Y => True ∧ True ∧ ∀ a, μ a = none → P (.ref a) (up μ a (.dk []))) :=
  pe_dnewK.imp fun σ H Q h => by
    obtain ⟨ρ, μ, P, Y, hρ, m, ⟨_, _, h⟩, c, cx⟩ := h
    intro a n
    exact c (.ref a) _ (.ref a) _ (Res.of rfl) (m.alloc (o := .dk []) n (show RepO _ _ (.dk []) _ from ⟨[], rfl, Nat.zero_le _, rfl, RepVs.nil⟩)) (Ext.alloc n) (h a (m.none n))
theorem c_var {i : Nat} {x : Str} (hN : X.N[i]? = some x) (hv : Vis X.env.scope x) (hd : (x == ("__debug__" : Str)) = false) (hcd : (x == ("__classdict__" : Str)) = false) :
    PE X (.Name x pos) (T X.K W fun ρ μ P Y => ∃ v, ρ[i]? = some (some v) ∧ P v μ) :=
  (pe_var hN hv hd hcd).imp fun σ H Q h => by
    obtain ⟨ρ, μ, P, Y, hρ, m, ⟨v, e, p⟩, c, cx⟩ := h
    obtain ⟨w, e2, r⟩ := hρ.2 i v e
    exact ⟨w, e2, c.here m r p⟩
theorem c_con {e : Expr} {v : PV} {w : V} (h : PE X e (tC w)) (r : ∀ H, RepV X.K H v w) : PE X e (T X.K W fun ρ μ P Y => P v μ) :=
  h.imp fun σ H Q h => by
    obtain ⟨ρ, μ, P, Y, hρ, m, p, c, cx⟩ := h
    exact c.here m (r H) p
theorem c_idx (ha : PE X p (T X.K W wa)) (hb : PE X q (T X.K W wb)) (hs : PlainIx q) : PE X (.Subscript p q pos) (T X.K W fun ρ μ P Y => wa ρ μ (fun x μ1 => wb ρ μ1 (fun y μ2 => idxW x y μ2 P) Y) Y) := by
  obtain ⟨r, ho, hr⟩ := g_idx (X := X)
  exact (pe_ix ho ha hb hs).imp fun σ H Q h => seq2 (g := idxW) hr h
theorem oo_none : L2.PO X none (TOo X.K W fun ρ μ P Y => P none μ) := ⟨fun pins s σ H Q I h => po_none.run pins s σ H Q I (by
  obtain ⟨ρ, μ, P, Y, hρ, m, h, c, cx⟩ := h
  exact c none μ H m Ext.refl h)⟩
theorem oo_some (ha : PE X p (T X.K W wa)) : L2.PO X (some p) (TOo X.K W fun ρ μ P Y => wa ρ μ (fun v μ1 => ∃ i, v = .int i ∧ P (some i) μ1) Y) := ⟨fun pins s σ H Q I h => (po_some ha).run pins s σ H Q I (by
  obtain ⟨ρ, μ, P, Y, hρ, m, h, c, cx⟩ := h
  refine T.go hρ m h cx fun v1 μ1 w1 H1 r1 m1 e1 hρ1 cx1 p1 => ?_
  obtain ⟨i, rfl, p1⟩ := p1
  exact ⟨i, r1, c _ μ1 H1 m1 e1 p1⟩)⟩
theorem c_slc {lo hi : Option Expr} {p2 : Pos} {wl wh : PE_ → PM → (Option Int → PM → Prop) → XPost → Prop} (ha : PE X p (T X.K W wa)) (hl : L2.PO X lo (TOo X.K W wl)) (hh : L2.PO X hi (TOo X.K W wh)) :
    PE X (.Subscript p (.Slice lo hi none p2) pos) (T X.K W fun ρ μ P Y => wa ρ μ (fun x μ1 => wl ρ μ1 (fun l μ2 => wh ρ μ2 (fun h μ3 => slcW x l h μ3 P) Y) Y) Y) := by
  obtain ⟨r, ho, hr⟩ := g_slc (X := X)
  refine (pe_slice ho ha hl hh).imp fun σ H Q h => ?_
  obtain ⟨ρ, μ, P, Y, hρ, m, h, c, cx⟩ := h
  refine T.go hρ m h cx fun v1 μ1 w1 H1 r1 m1 e1 hρ1 cx1 p1 => ?_
  refine ⟨ρ, μ1, _, Y, hρ1, m1, p1, fun l μ2 H2 m2 e2 p2 => ?_, cx1⟩
  refine ⟨ρ, μ2, _, Y, hρ1.mono (e2.tup m1), m2, p2, fun h μ3 H3 m3 e3 p3 => ?_, cx1.pre e2⟩
  exact hr H μ3 H3 v1 w1 l h P Q m3 ((r1.ext m1 e2).ext m2 e3) (c.pre ((e1.trans e2).trans e3)) p3
theorem lookup_rep {K : PySem.W.Frag} {H : Hp} {f : Str} {v : PV} : ∀ {fs : List (Str × PV)} {gs : List (Str × V)}, RepK K H fs gs → fs.lookup f = some v → ∃ w, gs.lookup f = some w ∧ RepV K H v w
  | [], _, _, e => by cases e
  | (g, y) :: fs, [], ⟨e1, _⟩, _ => by simp at e1
  | (g, y) :: fs, (g', w) :: gs, ⟨e1, r⟩, e => by
    simp only [List.map_cons, List.cons.injEq] at e1
    obtain ⟨rfl, e1⟩ := e1
    obtain ⟨v0, r0, h0, h1, h2⟩ := r
    simp only [List.map_cons, List.cons.injEq] at h0
    obtain ⟨rfl, rfl⟩ := h0
    simp only [List.lookup_cons] at e ⊢
    cases q : f == g' with
    | true => rw [q] at e; simp at e; subst e; exact ⟨w, by simp, h1⟩
    | false => rw [q] at e; simp at e; obtain ⟨w', a, b⟩ := lookup_rep (gs := gs) ⟨e1, h2⟩ e; exact ⟨w', by simpa using a, b⟩
theorem c_fld {n f : Str} (ha : PE X p (T X.K W wa)) (hb : attributeBase p f X.env (eval p X.env) = eval p X.env) (hc : Cls X.K (He.ga X.K n)) (hn : NoAttr X.K (He.ga X.K n) f) :
    PE X (.Attribute p f pos) (T X.K W fun ρ μ P Y => wa ρ μ (fun x μ1 => ∃ a fs v, x = .ref a ∧ μ1 a = some (.ins n fs) ∧ fs.lookup f = some v ∧ P v μ1) Y) :=
  (pe_fld ha hb).imp fun σ H Q h => seq1 (g := fun x μ1 P => ∃ a fs v, x = .ref a ∧ μ1 a = some (.ins n fs) ∧ fs.lookup f = some v ∧ P v μ1) (R := fun w H1 Q => ∃ a C dx fs v, w = .ref a ∧ H1 a = some (.ins C dx fs) ∧ Cls X.K C ∧ NoAttr X.K C f ∧ fs.lookup f = some v ∧ Q v H1)
    (fun H0 μ H x w P Q m r c h => by
      obtain ⟨a, fs, v, rfl, e, l, h⟩ := h
      obtain ⟨h0, e1, dx, gs, rfl, z, rk⟩ := m a _ e
      obtain ⟨w', l', r'⟩ := lookup_rep rk l
      exact ⟨a, _, dx, gs, w', r, e1, hc, hn, l', c.here m r' h⟩) h
end
end G

namespace G
open PySem PySem.Spec PyProof.Rows L2
variable [tb : Tb]
section
variable {X : Cx} {W : WX} {p q r : Expr} {pos np : Pos} {wa wb wc : PE_ → PM → Post → XPost → Prop} {ws : PE_ → PM → (List PV → PM → Prop) → XPost → Prop} {es : List Expr} {x : Str} {k : Nat} {f : Addr} {call : List PV → PM → Post → XPost → Prop}

theorem call_red {σ : St} {H : Hp} {Q : VK} (h : T X.K W (fun ρ μ P Y => ws ρ μ (fun vs μ1 => call vs μ1 P Y) Y) σ H Q) : tCallS (spOf X.K call) (WE W) (TAm X.K W ws) σ H Q := by
  obtain ⟨ρ, μ, P, Y, hρ, m, h, c, cx⟩ := h
  refine ⟨ρ, μ, _, Y, hρ, m, h, fun vs μ' ws H' r m' e p => ?_, cx⟩
  exact ⟨vs, μ', P, Y, r, m', p, fun v μ2 w H2 r2 m2 e2 p2 => (c.pre e) v μ2 w H2 (Res.of r2) m2 e2 p2, fun x μ2 cls d H2 rx m2 e2 p2 => (cx.pre e) x μ2 cls d H2 rx m2 e2 p2⟩
theorem am_tnil {σ : St} {H : Hp} {Q : List V → Hp → Prop} (h : TAm X.K W (fun ρ μ P Y => P [] μ) σ H Q) : tNil σ H Q := by
  obtain ⟨ρ, μ, P, Y, hρ, m, h, c, cx⟩ := h
  exact c [] μ [] H RepVs.nil m Ext.refl h
theorem c_call (F : FnF X.prog X.w X.K X.mg X.base k call f) (hr : Room k X.A) (hg : Gl X x) (hm : X.mg x = some (.ref f)) (tk : L2N.Takes X W) (hdb : (x == ("__debug__" : Str)) = false) (hs : es.all noStar = true) (ha : PA X es (TAm X.K W ws)) (h0 : es = [] → ws = fun ρ μ P Y => P [] μ) :
    PE X (.Call (.Name x np) es [] pos) (T X.K W fun ρ μ P Y => ws ρ μ (fun vs μ1 => call vs μ1 P Y) Y) := by
  obtain ⟨fd, ps, F1, hb⟩ := F.ok
  cases es with
  | nil =>
    have e := h0 rfl
    subst e
    exact (pe_callS0 F1 hr hg hm F.kp hb (fun σ => L2N.passAt tk σ) hdb).imp fun σ H Q h => am_tnil (call_red h)
  | cons e r =>
    simp only [List.all_cons, Bool.and_eq_true] at hs
    exact (pe_callS F1 hr hg hm F.kp hb (fun σ => L2N.passAt tk σ) ha hdb (star_cons _ hs.1) (star_back _ _ hs.2)).imp fun σ H Q h => call_red h
theorem new_red {σ : St} {H : Hp} {Q : VK} {n : Str} (h : T X.K W (fun ρ μ P Y => ws ρ μ (fun vs μ1 => ∀ a, μ1 a = none → call (.ref a :: vs) (up μ1 a (.ins n [])) (fun v μ2 => v = .non ∧ P (.ref a) μ2) Y) Y) σ H Q) :
    tMakeS (He.ga X.K n) (spOf X.K call) (WE W) (TAm X.K W ws) σ H Q := by
  obtain ⟨ρ, μ, P, Y, hρ, m, h, c, cx⟩ := h
  refine ⟨ρ, μ, _, Y, hρ, m, h, fun vs μ' ws H' r m' e p => ?_, cx⟩
  intro a dx na nd hne
  have n2 : upd H' dx (.own a) a = none := by rw [upd_ne (Ne.symm hne)]; exact na
  have m2 := m'.hid (h := .own a) nd
  have e2 : Ext μ' H' μ' (upd H' dx (.own a)) := Ext.hid nd
  have m3 : RepH X.K (upd (upd H' dx (.own a)) a (.ins (He.ga X.K n) dx [])) (up μ' a (.ins n [])) := m2.alloc n2 ⟨dx, [], rfl, Nat.zero_le _, rfl, RepVs.nil⟩
  have e3 : Ext μ' (upd H' dx (.own a)) (up μ' a (.ins n [])) (upd (upd H' dx (.own a)) a (.ins (He.ga X.K n) dx [])) := Ext.alloc n2
  have e4 := (e.trans e2).trans e3
  refine ⟨.ref a :: vs, _, _, Y, RepVs.cons rfl ((r.mono (TupLe.upd_new nd)).mono (TupLe.upd_new n2)), m3, p a (m'.none na), fun v μ2 w H2 r2 m4 e5 p2 => ?_, fun x μ2 cls d H2 rx m4 e5 p2 => ?_⟩
  · obtain ⟨rfl, p2⟩ := p2
    exact ⟨r2, c (.ref a) μ2 (.ref a) H2 rfl m4 (e4.trans e5) p2⟩
  · exact cx x μ2 cls d H2 rx m4 (e4.trans e5) p2
theorem c_new {n : Str} (M : Mk X.K (He.ga X.K n) f) (F : FnF X.prog X.w X.K X.mg X.base k call f) (hr : Room (k + 1) X.A) (hg : Gl X n) (hm : X.mg n = some (.ref (He.ga X.K n))) (tk : L2N.Takes X W) (hdb : (n == ("__debug__" : Str)) = false) (hs : es.all noStar = true) (ha : PA X es (TAm X.K W ws)) (h0 : es = [] → ws = fun ρ μ P Y => P [] μ) :
    PE X (.Call (.Name n np) es [] pos) (T X.K W fun ρ μ P Y => ws ρ μ (fun vs μ1 => ∀ a, μ1 a = none → call (.ref a :: vs) (up μ1 a (.ins n [])) (fun v μ2 => v = .non ∧ P (.ref a) μ2) Y) Y) := by
  obtain ⟨fd, ps, F1, hb⟩ := F.ok
  cases es with
  | nil =>
    have e := h0 rfl
    subst e
    exact (pe_makeS0 M F1 hr hg hm hb (fun σ => L2N.passAt tk σ) hdb).imp fun σ H Q h => am_tnil (new_red h)
  | cons e r =>
    simp only [List.all_cons, Bool.and_eq_true] at hs
    exact (pe_makeS M F1 hr hg hm hb (fun σ => L2N.passAt tk σ) ha hdb (star_cons _ hs.1) (star_back _ _ hs.2)).imp fun σ H Q h => new_red h
theorem c_bf {b : Bf} (hc : bfCool b = false → X.calm = true) (hg : Gl X (bfName b)) (hm : X.mg (bfName b) = none) (hs : es.all noStar = true) (hn : es ≠ []) (ha : PA X es (TAr X.K W ws)) :
    PE X (.Call (.Name (bfName b) np) es [] pos) (T X.K W fun ρ μ P Y => ws ρ μ (fun vs μ1 => bfW b vs μ1 P) Y) := by
  obtain ⟨r, hr, hq⟩ := bf_g b hc
  have red : ∀ σ H Q, T X.K W (fun ρ μ P Y => ws ρ μ (fun vs μ1 => bfW b vs μ1 P) Y) σ H Q → tCB r (TAr X.K W ws) σ H Q := fun σ H Q h => by
    obtain ⟨ρ, μ, P, Y, hρ, m, h, c, cx⟩ := h
    exact ⟨ρ, μ, _, Y, hρ, m, h, fun vs μ' ws H' rr m' e p => hq H μ' H' vs ws P Q m' rr (c.pre e) p, cx⟩
  cases es with
  | nil => exact absurd rfl hn
  | cons e rest =>
    simp only [List.all_cons, Bool.and_eq_true] at hs
    have he := star_cons (es := rest) X.env hs.1
    have hpl := star_back (es := rest) pos X.env hs.2
    cases b with
    | len => exact (pe_callB (x := "len") hr hg hm (by decide +kernel) ha (by decide) (by decide) he hpl).imp red
    | abs => exact (pe_callB (x := "abs") hr hg hm (by decide +kernel) ha (by decide) (by decide) he hpl).imp red
    | int => exact (pe_callTy (x := "int") hr hg hm (by decide +kernel) ha (by decide) (by decide) he hpl).imp red
    | str => exact (pe_callTy (x := "str") hr hg hm (by decide +kernel) ha (by decide) (by decide) he hpl).imp red
    | list => exact (pe_callTy (x := "list") hr hg hm (by decide +kernel) ha (by decide) (by decide) he hpl).imp red
    | tuple => exact (pe_callTy (x := "tuple") hr hg hm (by decide +kernel) ha (by decide) (by decide) he hpl).imp red
    | sum => exact (pe_callB (x := "sum") hr hg hm (by decide +kernel) ha (by decide) (by decide) he hpl).imp red
    | max => exact (pe_callB (x := "max") hr hg hm (by decide +kernel) ha (by decide) (by decide) he hpl).imp red
    | min => exact (pe_callB (x := "min") hr hg hm (by decide +kernel) ha (by decide) (by decide) he hpl).imp red
    | all => exact (pe_callB (x := "all") hr hg hm (by decide +kernel) ha (by decide) (by decide) he hpl).imp red
    | any => exact (pe_callB (x := "any") hr hg hm (by decide +kernel) ha (by decide) (by decide) he hpl).imp red
    | sorted => exact (pe_callB (x := "sorted") hr hg hm (by decide +kernel) ha (by decide) (by decide) he hpl).imp red
    | setl => exact (pe_callB (x := "len") hr hg hm (by decide +kernel) ha (by decide) (by decide) he hpl).imp red
    | repr => exact (pe_callB (x := "repr") hr hg hm (by decide +kernel) ha (by decide) (by decide) he hpl).imp red
    | dictp => exact (pe_callTy (x := "dict") hr hg hm (by decide +kernel) ha (by decide) (by decide) he hpl).imp red
    | range => exact (pe_callTy (x := "range") hr hg hm (by decide +kernel) ha (by decide) (by decide) he hpl).imp red

def clW (K : PySem.W.Frag) : Cl → V
  | .bt n => .ty n
  | .own c => .ref (He.ga K c)
theorem clsV (K : PySem.W.Frag) (c : Cl) : ClsV (clW K c) (clV K c) := by cases c <;> constructor
theorem clsVs (K : PySem.W.Frag) : ∀ cs : List Cl, Paired ClsV (cs.map (clW K)) (cs.map (clV K))
  | [] => .nil
  | c :: cs => .cons (clsV K c) (clsVs K cs)
theorem kitAny_of {K : PySem.W.Frag} {t : Cl} : ∀ {cs : List Cl}, (∀ c ∈ cs, PySem.W.kitOne K (clV K t) (clV K c) = some (isOne t c)) → PySem.W.kitAny K (clV K t) (cs.map (clV K)) = some (cs.any (isOne t))
  | [], _ => rfl
  | c :: cs, h => by
    simp only [List.map_cons, List.any_cons]
    refine kitAny_cons (h c (List.mem_cons_self ..)) (fun e => ?_) fun e => by rw [e]; rfl
    rw [e, Bool.false_or]
    exact kitAny_of fun d hd => h d (List.mem_cons_of_mem _ hd)
theorem ty_bt {μ : PM} {v : PV} {n : String} (h : tyOf μ v = some (.bt n)) : n ∈ bt7 := by
  cases v with
  | non => cases h; decide
  | bl _ => cases h; decide
  | int _ => cases h; decide
  | str _ => cases h; decide
  | tup _ => cases h; decide
  | tmp _ => cases h; decide
  | ty _ => cases h
  | kl _ => cases h
  | ref a =>
    simp only [tyOf] at h
    split at h <;> first | (cases h; decide) | cases h
structure IsF (K : PySem.W.Frag) (ts : List Str) (cs : List Cl) : Prop where
  isi : ∀ t u, (∃ b ∈ bt7, t = .bt b) ∨ (∃ c ∈ ts, t = .own c) → u ∈ cs → PySem.W.kitOne K (clV K t) (clV K u) = some (isOne t u)
  ins : ∀ c ∈ ts, InsOk K c
theorem isi_ty {K : PySem.W.Frag} {ts : List Str} {cs : List Cl} (F : IsF K ts cs) {μ : PM} {H0 H : Hp} {v : PV} {w : V} {X' : Cx} (hK : X'.K = K) (m : RepH K H μ) (r : Res K H0 μ H v w) {t : Cl} (e : tyOf μ v = some t) (o : ownIn ts t) :
    TyX K H w (clV K t) ∧ ∀ u ∈ cs, PySem.W.kitOne K (clV K t) (clV K u) = some (isOne t u) := by
  subst hK
  cases t with
  | bt n => exact ⟨ty_res m r e (fun c h => nomatch h), fun u hu => F.isi _ _ (.inl ⟨n, ty_bt e, rfl⟩) hu⟩
  | own c => exact ⟨ty_res m r e (fun d h => by cases h; exact F.ins c o), fun u hu => F.isi _ _ (.inr ⟨c, o, rfl⟩) hu⟩
theorem c_isi1 {cl : Cl} {ts : List Str} (F : IsF X.K ts [cl]) (hg : Gl X "isinstance") (hm : X.mg "isinstance" = none) (ha : PE X p (T X.K W wa)) (hs : noStar p = true) (hq : PE X q (tC (clW X.K cl))) (hs2 : noStar q = true) :
    PE X (.Call (.Name "isinstance" np) [p, q] [] pos) (T X.K W fun ρ μ P Y => wa ρ μ (fun x μ1 => isiW x [cl] ts μ1 P) Y) :=
  (pe_callB call_isi hg hm (by decide +kernel) (pa_cons ha (pa_cons hq pa_nil (star_cons _ hs2)) (star_cons _ hs)) (by decide) (by decide) (star_cons _ hs) (star_back _ _ (by simp [hs2]))).imp fun σ H Q h => by
    obtain ⟨ρ, μ, P, Y, hρ, m, h, c, cx⟩ := h
    refine T.go hρ m h cx fun v1 μ1 w1 H1 r1 m1 e1 hρ1 cx1 p1 => ?_
    obtain ⟨t, e, o, p1⟩ := p1
    obtain ⟨q1, q2⟩ := isi_ty (X' := X) F rfl m1 r1 e o
    refine ⟨w1, clW X.K cl, clV X.K t, clV X.K cl, isOne t cl, rfl, clsV _ _, q1, q2 cl (by simp), ?_⟩
    have : [cl].any (isOne t) = isOne t cl := by simp
    rw [this] at p1
    exact (c.pre e1).bl m1 p1
theorem c_isiN {cs : List Cl} {ts : List Str} {qs : List Expr} {kk : Nat} {tp : Pos} (F : IsF X.K ts cs) (hl : cs.length ≤ 1000) (hg : Gl X "isinstance") (hm : X.mg "isinstance" = none) (ha : PE X p (T X.K W wa)) (hs : noStar p = true)
    (hq : PA X qs (fun _ H Q => Q (cs.map (clW X.K)) H)) :
    PE X (.Call (.Name "isinstance" np) [p, .Tuple qs kk tp] [] pos) (T X.K W fun ρ μ P Y => wa ρ μ (fun x μ1 => isiW x cs ts μ1 P) Y) :=
  (pe_callB call_isiT hg hm (by decide +kernel) (pa_cons ha (pa_cons (pe_tup hq) pa_nil rfl) (star_cons _ hs)) (by decide) (by decide) (star_cons _ hs) (star_back _ _ (by simp [noStar]))).imp fun σ H Q h => by
    obtain ⟨ρ, μ, P, Y, hρ, m, h, c, cx⟩ := h
    refine T.go hρ m h cx fun v1 μ1 w1 H1 r1 m1 e1 hρ1 cx1 p1 => ?_
    obtain ⟨t, e, o, p1⟩ := p1
    refine ⟨by rw [List.length_map]; exact le_line hl, fun a na => ?_⟩
    have e2 : Ext μ1 H1 μ1 (upd H1 a (.tup (cs.map (clW X.K)))) := Ext.hid na
    have m2 := m1.hid (h := .tup (cs.map (clW X.K))) na
    obtain ⟨q1, q2⟩ := isi_ty (X' := X) F rfl m2 (r1.ext m1 e2) e o
    refine ⟨w1, a, cs.map (clW X.K), clV X.K t, cs.map (clV X.K), cs.any (isOne t), rfl, upd_same, clsVs _ _, q1, kitAny_of q2, ?_⟩
    exact (c.pre (e1.trans e2)).bl m2 p1
end
end G

namespace G
open PySem PySem.Spec PyProof.Rows L2
variable [tb : Tb]

def gA (K : PySem.W.Frag) (tg : Tg) : TG := fun v σ H Q => ∃ ρ μ pv k, RepE K H ρ σ ∧ RepH K H μ ∧ RepV K H pv v ∧ asgT tg pv ρ μ k ∧
  ∀ ρ' σ', RepE K H ρ' σ' → (∀ vs, (∀ i ∈ tgV tg, i ∈ vs) → wipe σ' vs = wipe σ vs) → k ρ' μ → Q σ' H
def gAs (K : PySem.W.Frag) (ts : List Tg) : TGs := fun vs σ H Q => ∃ ρ μ pvs k, RepE K H ρ σ ∧ RepH K H μ ∧ RepVs K H pvs vs ∧ asgTs ts pvs ρ μ k ∧
  ∀ ρ' σ', RepE K H ρ' σ' → (∀ vs, (∀ i ∈ tgVs ts, i ∈ vs) → wipe σ' vs = wipe σ vs) → k ρ' μ → Q σ' H
def gT (K : PySem.W.Frag) (ts : List Tg) : TG := fun v σ H Q => ∃ H0 ρ μ pv k, RepE K H ρ σ ∧ RepH K H μ ∧ Res K H0 μ H pv v ∧ asgT (.tp ts) pv ρ μ k ∧
  ∀ ρ' σ', RepE K H ρ' σ' → (∀ vs, (∀ i ∈ tgVs ts, i ∈ vs) → wipe σ' vs = wipe σ vs) → k ρ' μ → Q σ' H
theorem wipe_set {σ : St} {i : Nat} {x : Option V} : ∀ {vs : List Nat}, i ∈ vs → wipe (σ.set i x) vs = wipe σ vs
  | [], h => by cases h
  | v :: vs, h => by
    unfold wipe
    by_cases e : i = v
    · subst e
      by_cases q : i ∈ vs
      · rw [wipe_set q]
      · have : ∀ (vs : List Nat), i ∉ vs → wipe (σ.set i x) vs = (wipe σ vs).set i x := by
          intro vs
          induction vs with
          | nil => intro _; rfl
          | cons u us ih =>
            intro h
            unfold wipe
            rw [ih (fun m => h (List.mem_cons_of_mem _ m)), List.set_comm _ _ (fun e => h (by rw [e]; exact List.mem_cons_self))]
        rw [this vs q, List.set_set]
    · have q : i ∈ vs := (List.mem_cons.mp h).resolve_left e
      rw [wipe_set q]
theorem _root_.L2.PG.imp {X : Cx} {e : Expr} {t t' : TG} (p : PG X e t) (h : ∀ v σ H Q, t' v σ H Q → t v σ H Q) : PG X e t' := ⟨fun pins s σ H v u Q I r q => p.run pins s σ H v u Q I r (h v σ H Q q)⟩
theorem _root_.L2.PGs.imp {X : Cx} {e : List Expr} {t t' : TGs} (p : PGs X e t) (h : ∀ v σ H Q, t' v σ H Q → t v σ H Q) : PGs X e t' := ⟨fun pins s σ H v u Q I r q => p.run pins s σ H v u Q I r (h v σ H Q q)⟩
theorem _root_.L2.PG.or {X : Cx} {e : Expr} {t t' : TG} (p : PG X e t) (p' : PG X e t') : PG X e (fun v σ H Q => t v σ H Q ∨ t' v σ H Q) :=
  ⟨fun pins s σ H v u Q I r q => q.elim (p.run pins s σ H v u Q I r) (p'.run pins s σ H v u Q I r)⟩
mutual
theorem asgT_some : ∀ (t : Tg) (v : PV) (ρ : PE_) (μ : PM) (k : PE_ → PM → Prop), asgT t v ρ μ k → ∃ ρ' μ', k ρ' μ'
  | .nm i, v, ρ, μ, k, a => ⟨_, _, a⟩
  | .tp ts, v, ρ, μ, k, a => by
    obtain ⟨vs, _, a⟩ := (show ∃ vs, seqOf μ v = some vs ∧ asgTs ts vs ρ μ k from a)
    exact asgTs_some ts vs ρ μ k a
theorem asgTs_some : ∀ (t : List Tg) (v : List PV) (ρ : PE_) (μ : PM) (k : PE_ → PM → Prop), asgTs t v ρ μ k → ∃ ρ' μ', k ρ' μ'
  | [], [], ρ, μ, k, a => ⟨_, _, a⟩
  | [], _ :: _, ρ, μ, k, a => a.elim
  | _ :: _, [], ρ, μ, k, a => a.elim
  | t :: ts, v :: vs, ρ, μ, k, a => by
    obtain ⟨ρ', μ', a'⟩ := asgT_some t v ρ μ _ (show asgT t v ρ μ fun ρ' μ' => asgTs ts vs ρ' μ' k from a)
    exact asgTs_some ts vs ρ' μ' k a'
end
def isTgE : Expr → Bool
  | .Name .. => true
  | .Tuple .. => true
  | _ => false
theorem asg_each {es : List Expr} (env : Env) (h : es.all isTgE = true) : assignEach es env = es.map fun e => (false, assign e env) := by
  induction es with
  | nil => rfl
  | cons e r ih =>
    simp only [List.all_cons, Bool.and_eq_true] at h
    have h1 := h.1
    cases e <;> first | (show (false, _) :: assignEach r env = _; rw [ih h.2]; rfl) | cases h1
theorem mTgs_ok {N : List Str} {sc : Scope} {df : Str → Bool} : ∀ {ts : List Tg} {es : List Expr}, mTgs N sc df ts es = true → es.all isTgE = true
  | [], [], _ => rfl
  | [], _ :: _, h => by cases h
  | _ :: _, [], h => by cases h
  | t :: ts, e :: es, h => by
    have h' : (mTg N sc df t e && mTgs N sc df ts es) = true := h
    rw [Bool.and_eq_true] at h'
    rw [List.all_cons, Bool.and_eq_true]
    refine ⟨?_, mTgs_ok h'.2⟩
    have h1 := h'.1
    cases t <;> cases e <;> first | rfl | cases h1
theorem loc_of {N : List Str} {X : Cx} {df : Bool} {x : Str} (h : lkB X.env.scope x (if df then [.local, .cell] else [.local]) = true) (hf : df = true → X.fn x = true) : Loc X.env.scope x ∧ (X.fn x = true ∨ X.env.scope.names.lookup x = some .local) := by
  unfold lkB at h
  split at h
  · rename_i k e
    cases df with
    | true =>
      simp only [if_true] at h
      cases k <;> first | exact ⟨.inl e, .inl (hf rfl)⟩ | exact ⟨.inr e, .inl (hf rfl)⟩ | cases h
    | false =>
      simp only [Bool.false_eq_true, if_false] at h
      cases k <;> first | exact ⟨.inl e, .inr e⟩ | cases h
  · cases h
/-- tuples and lists are unpacked in this context -/
structure Unp (X : Cx) : Prop where
  tup : ∀ {es : List Expr} {k : Nat} {t : TGs} {n : Nat} {pos : Pos}, PGs X es t → (assignEach es X.env).length = n → (assignEach es X.env).findIdx? (·.1) = none → PG X (.Tuple es k pos) (gTup X.K n t)
  unl : ∀ {es : List Expr} {k : Nat} {t : TGs} {n : Nat} {pos : Pos}, PGs X es t → (assignEach es X.env).length = n → (assignEach es X.env).findIdx? (·.1) = none → PG X (.Tuple es k pos) (gUnl X.K n t)
theorem unp_calm {X : Cx} (hc : X.calm = true) : Unp X := ⟨fun h a b => pg_tup hc h a b, fun h a b => pg_unl hc h a b⟩
mutual
theorem pg_g {X : Cx} (hc : Unp X) (hN : X.N.Nodup) {df : Str → Bool} (hf : ∀ x, df x = true → X.fn x = true) : ∀ (tg : Tg) (e : Expr), mTg X.N X.env.scope df tg e = true → PG X e (gA X.K tg)
  | .nm i, e, h => by
    cases e <;> try (cases h; done)
    rename_i x pos
    have h' : (decide (X.N[i]? = some x) && lkB X.env.scope x (if df x then [.local, .cell] else [.local])) = true := h
    rw [Bool.and_eq_true] at h'
    obtain ⟨l1, l2⟩ := loc_of (N := X.N) h'.2 fun d => hf x d
    refine (pg_name hN (of_decide_eq_true h'.1) l1 l2).imp fun v σ H Q hq => ?_
    obtain ⟨ρ, μ, pv, k, hρ, m, r, a, c⟩ := hq
    exact c _ _ (hρ.set i r) (fun vs hi => wipe_set (hi i (List.mem_singleton.mpr rfl))) a
  | .tp ts, e, h => (pg_t hc hN hf ts e h).imp fun v σ H Q ⟨ρ, μ, pv, k, hρ, m, r, a, c⟩ => ⟨H, ρ, μ, pv, k, hρ, m, Res.of r, a, c⟩
theorem pg_t {X : Cx} (hc : Unp X) (hN : X.N.Nodup) {df : Str → Bool} (hf : ∀ x, df x = true → X.fn x = true) : ∀ (ts : List Tg) (e : Expr), mTg X.N X.env.scope df (.tp ts) e = true → PG X e (gT X.K ts)
  | ts, e, h => by
    cases e <;> try (cases h; done)
    rename_i es kk pos
    have h' : mTgs X.N X.env.scope df ts es = true := h
    have ps := pgs_g hc hN hf ts es h'
    have ha := asg_each X.env (mTgs_ok h')
    have hn : (assignEach es X.env).length = es.length := by rw [ha, List.length_map]
    have hst : (assignEach es X.env).findIdx? (·.1) = none := by
      rw [ha, List.findIdx?_eq_none_iff]
      intro x hx
      obtain ⟨y, _, rfl⟩ := List.mem_map.mp hx
      rfl
    refine ((hc.tup ps hn hst).or (hc.unl ps hn hst)).imp fun v σ H Q hq => ?_
    obtain ⟨H0, ρ, μ, pv, k, hρ, m, r, a, c⟩ := hq
    obtain ⟨pvs, e1, a⟩ := (show ∃ vs, seqOf μ pv = some vs ∧ asgTs ts vs ρ μ k from a)
    obtain ⟨p, vs, rfl, hs, r2, _⟩ := seq_res m r e1
    have hl : ∀ (ts : List Tg) (es : List Expr) (pvs : List PV) ρ μ k, mTgs X.N X.env.scope df ts es = true → asgTs ts pvs ρ μ k → pvs.length = es.length := by
      intro ts
      induction ts with
      | nil =>
        intro es pvs ρ μ k h a
        cases es with
        | nil => cases pvs with
          | nil => rfl
          | cons _ _ => exact a.elim
        | cons _ _ => cases h
      | cons t ts ih =>
        intro es pvs ρ μ k h a
        cases es with
        | nil => cases h
        | cons e es =>
          cases pvs with
          | nil => exact a.elim
          | cons v pvs =>
            have h' : (mTg X.N X.env.scope df t e && mTgs X.N X.env.scope df ts es) = true := h
            rw [Bool.and_eq_true] at h'
            have key : ∃ ρ2 μ2, asgTs ts pvs ρ2 μ2 k := by
              have a' : asgT t v ρ μ fun ρ' μ' => asgTs ts pvs ρ' μ' k := a
              exact asgT_some t v ρ μ _ a'
            obtain ⟨ρ2, μ2, a2⟩ := key
            simp [ih es pvs ρ2 μ2 k h'.2 a2]
    have hlen : vs.length = es.length := by rw [← r2.length]; exact hl ts es pvs ρ μ k h' a
    rcases hs with hs | hs
    · exact .inr ⟨p, vs, rfl, hs, hlen, ρ, μ, pvs, k, hρ, m, r2, a, c⟩
    · exact .inl ⟨p, vs, rfl, hs, hlen, ρ, μ, pvs, k, hρ, m, r2, a, c⟩
theorem pgs_g {X : Cx} (hc : Unp X) (hN : X.N.Nodup) {df : Str → Bool} (hf : ∀ x, df x = true → X.fn x = true) : ∀ (ts : List Tg) (es : List Expr), mTgs X.N X.env.scope df ts es = true → PGs X es (gAs X.K ts)
  | [], [], h => pgs_nil.imp fun vs σ H Q ⟨ρ, μ, pvs, k, hρ, m, r, a, c⟩ => by
    cases pvs with
    | nil => exact ⟨r, c ρ σ hρ (fun _ _ => rfl) a⟩
    | cons _ _ => exact a.elim
  | [], _ :: _, h => by cases h
  | _ :: _, [], h => by cases h
  | t :: ts, e :: es, h => by
    have h' : (mTg X.N X.env.scope df t e && mTgs X.N X.env.scope df ts es) = true := h
    rw [Bool.and_eq_true] at h'
    have he : isTgE e = true := by
      have q := mTgs_ok h
      rw [List.all_cons, Bool.and_eq_true] at q
      exact q.1
    refine (pgs_cons (pg_g hc hN hf t e h'.1) (pgs_g hc hN hf ts es h'.2) (by cases e <;> first | rfl | cases he)).imp fun vs σ H Q hq => ?_
    obtain ⟨ρ, μ, pvs, k, hρ, m, r, a, c⟩ := hq
    cases pvs with
    | nil => exact a.elim
    | cons pv pvs =>
      obtain ⟨v, r0, rfl, r1, r2⟩ := r
      refine ⟨v, r0, rfl, ρ, μ, pv, _, hρ, m, r1, (show asgT t pv ρ μ fun ρ' μ' => asgTs ts pvs ρ' μ' k from a), fun ρ' σ' hρ' w1 a' => ?_⟩
      refine ⟨ρ', μ, pvs, k, hρ', m, r2, a', fun ρ2 σ2 hρ2 w2 k2 => c ρ2 σ2 hρ2 (fun vs hi => ?_) k2⟩
      have hi' : ∀ i ∈ tgV t ++ tgVs ts, i ∈ vs := hi
      rw [w2 vs fun i h => hi' i (List.mem_append_right _ h), w1 vs fun i h => hi' i (List.mem_append_left _ h)]
end
end G

namespace G
open PySem PySem.Spec PyProof.Rows L2
variable [tb : Tb]

def TIk (K : PySem.W.Frag) (W : WX) (wps : PE_ → PM → (List PV → PM → Prop) → XPost → Prop) (k : IK) : TI := fun σ H R => ∃ ρ μ P X, RepE K H ρ σ ∧ RepH K H μ ∧ wps ρ μ P X ∧ XCont K W σ μ H X ∧
  ∀ vs μ' H', RepH K H' μ' → Ext μ H μ' H' → P vs μ' → ∃ items, itemsOf μ' k vs = some items ∧ (items.length ≤ sizeLine → ∀ J, GW K (fun μ1 H1 => Ext μ' H' μ1 H1 ∧ itemsOf μ1 k vs = some items) items J → R J H')

section
variable {K : PySem.W.Frag} {μ : PM} {H H0 : Hp} {v : PV} {w : V} {xs : List PV}
theorem itS_len (m : RepH K H μ) (r : Res K H0 μ H v w) (e : itS μ v = some xs) : xs.length ≤ sizeLine := by
  have sq : seqOf μ v = some xs → xs.length ≤ sizeLine := fun e => (seq_res m r e).elim fun a h => h.elim fun vs h => h.2.2.2
  cases v with
  | str z =>
    cases e
    obtain ⟨_, hz⟩ := (show w = .str z ∧ z.length ≤ sizeLine from r)
    have : (strItems z).length = z.length := by simp [strItems, Str.length]
    omega
  | _ => exact sq e
end
section
variable {X : Cx} {W : WX} {e e2 tg : Expr} {we we2 : PE_ → PM → Post → XPost → Prop} {ws : PE_ → PM → (List PV → PM → Prop) → XPost → Prop} {p pos : Pos}
theorem TIk.run {k : IK} {σ : St} {H : Hp} {R : It → Hp → Prop} (h : TIk X.K W ws k σ H R) : TAr X.K W ws σ H (fun us H1 => ∃ vs μ1 items, Ress X.K H μ1 H1 vs us ∧ RepH X.K H1 μ1 ∧ itemsOf μ1 k vs = some items ∧ (items.length ≤ sizeLine → ∀ J, GW X.K (fun μ2 H2 => Ext μ1 H1 μ2 H2 ∧ itemsOf μ2 k vs = some items) items J → R J H1)) := by
  obtain ⟨ρ, μ, P, Y, hρ, m, h, cx, c⟩ := h
  refine ⟨ρ, μ, P, Y, hρ, m, h, fun vs μ1 us H1 r m1 e1 p1 => ?_, cx⟩
  obtain ⟨items, e, c2⟩ := c vs μ1 H1 m1 e1 p1
  exact ⟨vs, μ1, items, r, m1, e, c2⟩
theorem pi_k_seq (he : PE X e (T X.K W we)) : PI X tg e (TIk X.K W (fun ρ μ P Y => we ρ μ (fun v μ1 => P [v] μ1) Y) .seq) := by
  refine ⟨fun pins s σ H R I h => (pi_seqG (tg := tg) he).run pins s σ H R I ?_⟩
  obtain ⟨ρ, μ, P, Y, hρ, m, h, cx, c⟩ := h
  refine ⟨ρ, μ, _, Y, hρ, m, h, fun v μ1 w H1 r m1 e1 p1 => ?_, cx⟩
  obtain ⟨items, e, c2⟩ := c [v] μ1 H1 m1 e1 p1
  have e' : itS μ1 v = some items := e
  refine skV_of m1 r e' fun k hk => ?_
  have hs : ∀ μ2 H2, RepH X.K H2 μ2 → (Ext μ1 H1 μ2 H2 ∧ itemsOf μ2 .seq [v] = some items) → ∃ us, k.Is X.K H2 us ∧ RepVs X.K H2 items us := fun μ2 H2 m2 ⟨e2, i2⟩ => itS_res m2 (r.ext m1 e2) i2 hk
  refine c2 (itS_len m1 r e') _ ?_
  cases k with
  | l a => exact GW.seq hs (fun i H us h1 hi => ⟨us, us[i], h1, by simp [hi]⟩) (fun H us h1 => ⟨us, h1, Nat.le_refl _⟩) (fun i H x H' y => ⟨y.1, fun us h1 => y.2 us h1⟩)
  | t a => exact GW.seq hs (fun i H us h1 hi => ⟨us, us[i], h1, by simp [hi]⟩) (fun H us h1 => ⟨us, h1, Nat.le_refl _⟩) (fun i H x H' y => ⟨y.1, fun us h1 => y.2 us h1⟩)
  | s z tk =>
    refine GW.seq hs (fun i H us h1 hi => ?_) (fun H us h1 => ?_) (fun i H x H' y => ⟨y.1, fun us h1 => ?_⟩)
    · cases h1
      show i < z.cps.size
      simpa [chars] using hi
    · cases h1
      show z.cps.size ≤ _
      simp [chars]
    · cases h1
      obtain ⟨_, c, h1, rfl⟩ := y
      simp [chars, h1]
theorem rng_len {lo : Int} {n : Nat} (h : n ≤ 1000000) : (rngItems lo n).length ≤ sizeLine := by
  have : (rngItems lo n).length = n := by simp [rngItems]
  rw [this]
  exact Nat.le_trans h (by rw [sizeLine_eq]; decide)
theorem pi_k_rng1 (hg : Gl X "range") (hm : X.mg "range" = none) (ha : PA X [e] (TAr X.K W ws)) (hs : noStar e = true) : PI X tg (.Call (.Name "range" p) [e] [] pos) (TIk X.K W (fun ρ μ P Y => ws ρ μ (fun vs μ1 => vs.length = 1 ∧ P vs μ1) Y) .rng) := by
  refine ⟨fun pins s σ H R I h => (pi_range1 (tg := tg) hg hm ha (star_cons _ hs)).run pins s σ H R I ?_⟩
  obtain ⟨ρ, μ, P, Y, hρ, m, h, cx, c⟩ := h
  refine ⟨ρ, μ, _, Y, hρ, m, h, fun vs μ1 us H1 r m1 e1 p1 => ?_, cx⟩
  obtain ⟨l1, p1⟩ := p1
  obtain ⟨items, e, c2⟩ := c vs μ1 H1 m1 e1 p1
  match vs, e, l1 with
  | [.int j], e, _ =>
    obtain ⟨w, rfl, r1⟩ := ress1 r
    by_cases q : -(2 ^ 62) ≤ j ∧ j ≤ 1000000
    · have e' : (if -(2 ^ 62) ≤ j ∧ j ≤ 1000000 then some (rngItems 0 j.toNat) else none) = some items := e
      rw [if_pos q] at e'
      cases e'
      exact ⟨j, by rw [show w = .int j from r1], q.1, by omega, c2 (rng_len (by omega)) _ GW.rng⟩
    · have e' : (if -(2 ^ 62) ≤ j ∧ j ≤ 1000000 then some (rngItems 0 j.toNat) else none) = some items := e
      rw [if_neg q] at e'; cases e'
theorem pi_k_rng2 (hg : Gl X "range") (hm : X.mg "range" = none) (ha : PA X [e, e2] (TAr X.K W ws)) (hs : noStar e = true) (hs2 : noStar e2 = true) : PI X tg (.Call (.Name "range" p) [e, e2] [] pos) (TIk X.K W (fun ρ μ P Y => ws ρ μ (fun vs μ1 => vs.length = 2 ∧ P vs μ1) Y) .rng) := by
  refine ⟨fun pins s σ H R I h => (pi_range2 (tg := tg) hg hm ha (by rw [star_cons _ hs, star_cons _ hs2]; rfl) (star_cons _ hs2)).run pins s σ H R I ?_⟩
  obtain ⟨ρ, μ, P, Y, hρ, m, h, cx, c⟩ := h
  refine ⟨ρ, μ, _, Y, hρ, m, h, fun vs μ1 us H1 r m1 e1 p1 => ?_, cx⟩
  obtain ⟨l1, p1⟩ := p1
  obtain ⟨items, e, c2⟩ := c vs μ1 H1 m1 e1 p1
  match vs, e, l1 with
  | [.int i, .int j], e, _ =>
    obtain ⟨w, u, rfl, r1, r2⟩ := ress2 r
    have e' : (if (-(2 ^ 62) ≤ i ∧ i < 2 ^ 62 ∧ -(2 ^ 62) ≤ j ∧ j < 2 ^ 62 ∧ j ≤ i + 1000000) then some (rngItems i (j - i).toNat) else none) = some items := e
    by_cases q : (-(2 ^ 62) ≤ i ∧ i < 2 ^ 62 ∧ -(2 ^ 62) ≤ j ∧ j < 2 ^ 62 ∧ j ≤ i + 1000000)
    · rw [if_pos q] at e'
      cases e'
      exact ⟨i, j, by rw [show w = .int i from r1, show u = .int j from r2], ⟨q.1, q.2.1, q.2.2.1, q.2.2.2.1⟩, c2 (rng_len (by omega)) _ GW.rng⟩
    · rw [if_neg q] at e'; cases e'
theorem pi_k_enum {elts : List Expr} {kk : Nat} {tp : Pos} (hg : Gl X "enumerate") (hm : X.mg "enumerate" = none) (ha : PA X [e] (TAr X.K W ws)) (hs : noStar e = true) :
    PI X (.Tuple elts kk tp) (.Call (.Name "enumerate" p) [e] [] pos) (TIk X.K W (fun ρ μ P Y => ws ρ μ (fun vs μ1 => vs.length = 1 ∧ P vs μ1) Y) .enum) := by
  refine ⟨fun pins s σ H R I h => (pi_enumG hg hm ha (star_cons _ hs)).run pins s σ H R I ?_⟩
  obtain ⟨ρ, μ, P, Y, hρ, m, h, cx, c⟩ := h
  refine ⟨ρ, μ, _, Y, hρ, m, h, fun vs μ1 us H1 r m1 e1 p1 => ?_, cx⟩
  obtain ⟨l1, p1⟩ := p1
  obtain ⟨items, e, c2⟩ := c vs μ1 H1 m1 e1 p1
  match vs, e, l1 with
  | [x], e, _ =>
    obtain ⟨w, rfl, r1⟩ := ress1 r
    have e' : (itS μ1 x).map (fun xs => (List.range xs.length).zipWith (fun (i : Nat) v => PV.tup [.int i, v]) xs) = some items := e
    obtain ⟨xs, q, rfl⟩ := Option.map_eq_some_iff.mp e'
    refine ⟨w, rfl, skV_of m1 r1 q fun k hk => c2 ?_ _ (GW.enum fun μ2 H2 m2 ⟨e2, i2⟩ => ?_)⟩
    · have := itS_len m1 r1 q
      simp; exact this
    · have i3 : (itS μ2 x).map (fun xs => (List.range xs.length).zipWith (fun (i : Nat) v => PV.tup [.int i, v]) xs) = some _ := i2
      obtain ⟨ys, q2, q3⟩ := Option.map_eq_some_iff.mp i3
      have : ys = xs := by
        have f : ∀ zs : List PV, ((List.range zs.length).zipWith (fun (i : Nat) v => PV.tup [.int i, v]) zs).map (fun v => match v with | .tup [_, v] => v | v => v) = zs := by
          intro zs
          apply List.ext_getElem?
          intro n
          rw [List.getElem?_map, List.getElem?_zipWith]
          by_cases hn : n < zs.length
          · simp [hn]
          · simp [hn, List.getElem?_eq_none (Nat.le_of_not_lt hn)]
        rw [← f ys, q3, f xs]
      subst this
      exact itS_res m2 (r1.ext m1 e2) q2 hk
theorem GW.zip2 {K : PySem.W.Frag} {items : List PV} {src : PM → Hp → Prop} {k l : SK} (hs : ∀ μ H, RepH K H μ → src μ H → ∃ xs ys us us2, k.Is K H us ∧ RepVs K H xs us ∧ l.Is K H us2 ∧ RepVs K H ys us2 ∧ xs.zipWith (fun a b => PV.tup [a, b]) ys = items) :
    GW K src items (JZ K k l) where
  go := fun i μ H m s hi => by
    obtain ⟨xs, ys, us, us2, h1, h2, g1, g2, rfl⟩ := hs μ H m s
    exact ⟨us, us2, h1, g1, by rw [← h2.length, ← g2.length]; simpa using hi⟩
  stop := fun μ H m s => by
    obtain ⟨xs, ys, us, us2, h1, h2, g1, g2, rfl⟩ := hs μ H m s
    exact ⟨us, us2, h1, g1, by rw [← h2.length, ← g2.length]; simp⟩
  yld := fun i μ H x H' m s hi y => by
    obtain ⟨xs, ys, us, us2, h1, h2, g1, g2, rfl⟩ := hs μ H m s
    obtain ⟨T, x0, y0, rfl, n, rfl, h3, h4⟩ := y
    obtain ⟨v, e1, e2⟩ := h2.get' (h3 us h1)
    obtain ⟨v2, f1, f2⟩ := g2.get' (h4 us2 g1)
    obtain ⟨q1, q2, q3⟩ := pair_rep m n e2 f2
    refine ⟨_, ?_, q1, q2, q3⟩
    rw [List.getElem?_zipWith]
    simp [e1, f1]
theorem pi_k_zip {elts : List Expr} {kk : Nat} {tp : Pos} (hg : Gl X "zip") (hm : X.mg "zip" = none) (ha : PA X [e, e2] (TAr X.K W ws)) (hs : noStar e = true) (hs2 : noStar e2 = true) :
    PI X (.Tuple elts kk tp) (.Call (.Name "zip" p) [e, e2] [] pos) (TIk X.K W (fun ρ μ P Y => ws ρ μ (fun vs μ1 => vs.length = 2 ∧ P vs μ1) Y) .zip) := by
  refine ⟨fun pins s σ H R I h => (pi_zipG hg hm ha (star_cons _ hs) (star_back _ _ (by simp [hs2]))).run pins s σ H R I ?_⟩
  obtain ⟨ρ, μ, P, Y, hρ, m, h, cx, c⟩ := h
  refine ⟨ρ, μ, _, Y, hρ, m, h, fun vs μ1 us H1 r m1 e1 p1 => ?_, cx⟩
  obtain ⟨l1, p1⟩ := p1
  obtain ⟨items, e, c2⟩ := c vs μ1 H1 m1 e1 p1
  match vs, e, l1 with
  | [x, y], e, _ =>
    obtain ⟨w, u, rfl, r1, r2⟩ := ress2 r
    have e' : (match itS μ1 x, itS μ1 y with
      | some xs, some ys => some (xs.zipWith (fun a b => PV.tup [a, b]) ys)
      | _, _ => none) = some items := e
    cases q : itS μ1 x with
    | none => rw [q] at e'; cases e'
    | some xs =>
      cases q2 : itS μ1 y with
      | none => rw [q, q2] at e'; cases e'
      | some ys =>
        rw [q, q2] at e'
        cases e'
        refine ⟨w, u, rfl, skV_of m1 r1 q fun k hk => skV_of m1 r2 q2 fun l hl => c2 ?_ _ (GW.zip2 fun μ2 H2 m2 ⟨e2, i2⟩ => ?_)⟩
        · have := itS_len m1 r1 q
          simp
          omega
        · have i3 : (match itS μ2 x, itS μ2 y with
            | some xs, some ys => some (xs.zipWith (fun a b => PV.tup [a, b]) ys)
            | _, _ => none) = some (xs.zipWith (fun a b => PV.tup [a, b]) ys) := i2
          cases z : itS μ2 x with
          | none => rw [z] at i3; cases i3
          | some xs2 =>
            cases z2 : itS μ2 y with
            | none => rw [z, z2] at i3; cases i3
            | some ys2 =>
              rw [z, z2] at i3
              obtain ⟨us, h1, h2⟩ := itS_res m2 (r1.ext m1 e2) z hk
              obtain ⟨us2, g1, g2⟩ := itS_res m2 (r2.ext m1 e2) z2 hl
              exact ⟨xs2, ys2, us, us2, h1, h2, g1, g2, Option.some.inj i3⟩

def ezIt (xs ys : List PV) : List PV := (List.range (min xs.length ys.length)).zipWith (fun (i : Nat) v => PV.tup [.int i, v]) (xs.zipWith (fun a b => PV.tup [a, b]) ys)
theorem GW.ez {K : PySem.W.Frag} {items : List PV} {src : PM → Hp → Prop} {k l : SK} (hs : ∀ μ H, RepH K H μ → src μ H → ∃ xs ys us us2, k.Is K H us ∧ RepVs K H xs us ∧ l.Is K H us2 ∧ RepVs K H ys us2 ∧ ezIt xs ys = items) :
    GW K src items (JEZ K k l) where
  go := fun i μ H m s hi => by
    obtain ⟨xs, ys, us, us2, h1, h2, g1, g2, rfl⟩ := hs μ H m s
    exact ⟨us, us2, h1, g1, by rw [← h2.length, ← g2.length]; simpa [ezIt] using hi⟩
  stop := fun μ H m s => by
    obtain ⟨xs, ys, us, us2, h1, h2, g1, g2, rfl⟩ := hs μ H m s
    exact ⟨us, us2, h1, g1, by rw [← h2.length, ← g2.length]; simp [ezIt]⟩
  yld := fun i μ H x H' m s hi y => by
    obtain ⟨xs, ys, us, us2, h1, h2, g1, g2, rfl⟩ := hs μ H m s
    obtain ⟨T, T1, x0, y0, rfl, n1, n2, rfl, h3, h4⟩ := y
    obtain ⟨v, e1, e2⟩ := h2.get' (h3 us h1)
    obtain ⟨v2, f1, f2⟩ := g2.get' (h4 us2 g1)
    obtain ⟨q1, q2, q3⟩ := pair_rep m n1 e2 f2
    obtain ⟨r1, r2, r3⟩ := pair_rep (a := .int (i : Nat)) (x := .int (i : Nat)) q1 n2 rfl q3
    have hl1 := (List.getElem?_eq_some_iff.mp e1).1
    have hl2 := (List.getElem?_eq_some_iff.mp f1).1
    have hlt : i < min xs.length ys.length := by omega
    refine ⟨_, ?_, r1, q2.trans r2, r3⟩
    unfold ezIt
    rw [List.getElem?_zipWith, List.getElem?_zipWith, e1, f1, List.getElem?_range hlt]
theorem pi_k_ez {q : Pos} {p2 : Pos} {elts : List Expr} {kk : Nat} {tp : Pos} (hg0 : Gl X "enumerate") (hm0 : X.mg "enumerate" = none) (hg : Gl X "zip") (hm : X.mg "zip" = none) (ha : PA X [e, e2] (TAr X.K W ws)) (hs : noStar e = true) (hs2 : noStar e2 = true) :
    PI X (.Tuple elts kk tp) (.Call (.Name "enumerate" p) [.Call (.Name "zip" p2) [e, e2] [] q] [] pos) (TIk X.K W (fun ρ μ P Y => ws ρ μ (fun vs μ1 => vs.length = 2 ∧ P vs μ1) Y) .enumzip) := by
  refine ⟨fun pins s σ H R I h => (pi_ezG hg0 hm0 hg hm ha (star_cons _ hs) (fun pos => star_back _ _ (by simp [hs2]))).run pins s σ H R I ?_⟩
  obtain ⟨ρ, μ, P, Y, hρ, m, h, cx, c⟩ := h
  refine ⟨ρ, μ, _, Y, hρ, m, h, fun vs μ1 us H1 r m1 e1 p1 => ?_, cx⟩
  obtain ⟨l1, p1⟩ := p1
  obtain ⟨items, e, c2⟩ := c vs μ1 H1 m1 e1 p1
  match vs, e, l1 with
  | [x, y], e, _ =>
    obtain ⟨w, u, rfl, r1, r2⟩ := ress2 r
    have e' : (match itS μ1 x, itS μ1 y with
      | some xs, some ys => some (ezIt xs ys)
      | _, _ => none) = some items := e
    cases q : itS μ1 x with
    | none => rw [q] at e'; cases e'
    | some xs =>
      cases q2 : itS μ1 y with
      | none => rw [q, q2] at e'; cases e'
      | some ys =>
        rw [q, q2] at e'
        cases e'
        refine ⟨w, u, rfl, skV_of m1 r1 q fun k hk => skV_of m1 r2 q2 fun l hl => c2 ?_ _ (GW.ez fun μ2 H2 m2 ⟨e2, i2⟩ => ?_)⟩
        · have := itS_len m1 r1 q
          simp [ezIt]
          omega
        · have i3 : (match itS μ2 x, itS μ2 y with
            | some xs, some ys => some (ezIt xs ys)
            | _, _ => none) = some (ezIt xs ys) := i2
          cases z : itS μ2 x with
          | none => rw [z] at i3; cases i3
          | some xs2 =>
            cases z2 : itS μ2 y with
            | none => rw [z, z2] at i3; cases i3
            | some ys2 =>
              rw [z, z2] at i3
              obtain ⟨us, h1, h2⟩ := itS_res m2 (r1.ext m1 e2) z hk
              obtain ⟨us2, g1, g2⟩ := itS_res m2 (r2.ext m1 e2) z2 hl
              exact ⟨xs2, ys2, us, us2, h1, h2, g1, g2, Option.some.inj i3⟩
end
end G

namespace G
open PySem PySem.Spec PyProof.Rows L2
variable [tb : Tb]

def W0 : WX := fun _ _ _ _ => False
def XNo : XPost := fun _ _ => False
def TBs (K : PySem.W.Frag) (wc : PE_ → PM → (Bool → PM → Prop) → Prop) : TT := fun σ H Q => ∃ ρ μ P, RepE K H ρ σ ∧ RepH K H μ ∧ wc ρ μ P ∧ ∀ b μ' H', RepH K H' μ' → Ext μ H μ' H' → P b μ' → Q b H'
theorem RepE.wipe {K : PySem.W.Frag} {H : Hp} {ρ : PE_} {σ : St} (r : RepE K H ρ σ) : ∀ vs : List Nat, RepE K H (wipeP ρ vs) (wipe σ vs)
  | [] => r
  | v :: vs => (RepE.wipe r vs).gone v
theorem wipe_twice (σ : St) : ∀ vs : List Nat, wipe (wipe σ vs) vs = wipe σ vs := by
  have key : ∀ (us vs : List Nat) (σ : St), (∀ i ∈ us, i ∈ vs) → wipe (wipe σ us) vs = wipe σ vs := by
    intro us
    induction us with
    | nil => intro vs σ _; rfl
    | cons u us ih =>
      intro vs σ h
      show wipe ((wipe σ us).set u none) vs = _
      rw [wipe_set (h u (List.mem_cons_self)), ih vs σ fun i hi => h i (List.mem_cons_of_mem _ hi)]
  exact fun vs => key vs vs σ fun _ h => h
theorem Ext.late {μ0 μ : PM} {H0 H : Hp} {D : Addr} {h : HO} (e : Ext μ0 H0 μ H) (n : H0 D = none) : Ext μ0 H0 μ (upd H D h) where
  keep := fun a o h1 t h2 => by rw [upd_ne (fun z => by subst z; rw [n] at h1; cases h1)]; exact e.keep a o h1 t h2
  dom := fun a h1 => by
    by_cases z : a = D
    · subst z; exact n
    · rw [upd_ne z] at h1; exact e.dom a h1
  new := fun a n h => e.new a n h
theorem TupLe.lstW {K : PySem.W.Frag} {H : Hp} {D : Addr} {acc : List V} {h : HO} (hd : H D = some (.lst acc)) : TupLe K H (upd H D h) := fun b xs q => by
  rcases q with (q | ⟨o, q⟩) | q
  · exact .inl (.inl (by rw [upd_ne (fun z => by subst z; rw [hd] at q; cases q)]; exact q))
  · exact .inl (.inr ⟨o, by rw [upd_ne (fun z => by subst z; rw [hd] at q; cases q)]; exact q⟩)
  · exact .inr q
theorem RepH.hidW {K : PySem.W.Frag} {H : Hp} {μ : PM} {D : Addr} {acc : List V} {h : HO} (r : RepH K H μ) (n : μ D = Option.none) (hd : H D = some (.lst acc)) : RepH K (upd H D h) μ :=
  r.ext (TupLe.lstW hd) (fun a o h' e1 e2 => by rw [upd_ne (fun z => by subst z; rw [n] at e1; cases e1)]; exact e2) (r.tb.put hd (fun _ z => nomatch z) (nk_no (fun _ z => nomatch z) (fun _ _ z => nomatch z) (fun _ z => nomatch z)))

section
variable {X : Cx} {W : WX} {pt pi pe : Expr} {pf : List Expr} {scope : Scope} {own : List (Str × Nat)} {pos : Pos} {k : IK} {tg : Tg}
  {wps : PE_ → PM → (List PV → PM → Prop) → XPost → Prop} {wc : PE_ → PM → (Bool → PM → Prop) → Prop} {we : PE_ → PM → Post → XPost → Prop}
theorem lc_red {K : PySem.W.Frag} (hsub : ∀ i ∈ tgV tg, i ∈ own.map (·.2)) {σ : St} {H : Hp} {Q : VK}
    (h : T K W (fun ρ μ P Y => wps ρ μ (fun vs μ1 => ∃ items, itemsOf μ1 k vs = some items ∧
      compW (fun μ' => itemsOf μ' k vs = some items) (fun x μ' k' => asgT tg x (wipeP ρ (own.map (·.2))) μ' fun ρ2 μ2 =>
        wc ρ2 μ2 (fun b μ3 => if b = true then we ρ2 μ3 (fun y μ4 => mat y μ4 fun y' μ5 => k' (some y') μ5) (fun _ _ => False) else k' none μ3))
        (fun acc μ' => P (.tmp acc) μ') items [] μ1) Y) σ H Q) :
    tLc (TIk K W wps k) (gA K tg) (TBs K wc) (T K W0 we) (own.map (·.2)) σ H Q := by
  obtain ⟨ρ, μ, P, Y, hρ, m, h, c, cx⟩ := h
  refine ⟨ρ, μ, _, Y, hρ, m, h, cx, fun vs μ0 H0 m0 e0 p0 => ?_⟩
  obtain ⟨items, ei, cw⟩ := p0
  refine ⟨items, ei, fun hlen J gw D nD => ?_⟩
  have hρ0 := hρ.mono (e0.tup m)
  generalize hw : own.map (·.2) = vw at cw hsub
  let st : PM → Prop := fun μ' => itemsOf μ' k vs = some items
  let step : PV → PM → (Option PV → PM → Prop) → Prop := fun x μ' k' => asgT tg x (wipeP ρ vw) μ' fun ρ2 μ2 =>
        wc ρ2 μ2 (fun b μ3 => if b = true then we ρ2 μ3 (fun y μ4 => mat y μ4 fun y' μ5 => k' (some y') μ5) (fun _ _ => False) else k' none μ3)
  let fin : List PV → PM → Prop := fun acc μ' => P (.tmp acc) μ'
  let Wd : Nat → Nat → Hp → Prop := fun i n H' => ∃ μ' accP acc, n = items.length - i ∧ i ≤ items.length ∧ accP.length ≤ i ∧ RepH K H' μ' ∧ Ext μ0 H0 μ' H' ∧ H' D = some (.lst acc) ∧ μ' D = none ∧ RepVs K H' accP acc ∧ compW st step fin (items.drop i) accP μ'
  refine ⟨Wd, ⟨items.length, μ0, [], [], rfl, Nat.zero_le _, Nat.le_refl _, m0.hid nD, Ext.hid nD, upd_same, m0.none nD, RepVs.nil, cw⟩, ?_⟩
  rintro i n H1 ⟨μ1, accP, acc, rfl, hi, hal, m1, e1, hD, hμD, ra, cw1⟩
  by_cases hlt : i < items.length
  · obtain ⟨x, hx⟩ : ∃ x, items[i]? = some x := ⟨items[i], List.getElem?_eq_getElem hlt⟩
    have hdrop : items.drop i = x :: items.drop (i + 1) := by
      rw [List.drop_eq_getElem_cons hlt]
      have : items[i] = x := by rw [List.getElem?_eq_getElem hlt] at hx; exact Option.some.inj hx
      rw [this]
    rw [hdrop] at cw1
    unfold compW at cw1
    obtain ⟨hst, hstep⟩ := cw1
    refine .inr ⟨gw.go i μ1 H1 m1 ⟨e1, hst⟩ hlt, fun H' => Wd (i + 1) (items.length - (i + 1)) H', fun H' hw' => ⟨_, by omega, hw'⟩, fun y H2 hy => ?_⟩
    obtain ⟨v, ev, m2, e2, r2⟩ := gw.yld i μ1 H1 y H2 m1 ⟨e1, hst⟩ hlt hy
    rw [hx] at ev; cases ev
    have e12 := e1.trans e2
    have hρ2 : RepE K H2 (wipeP ρ vw) (wipe σ vw) := (hρ0.mono (e12.tup m0)).wipe vw
    have hD2 : H2 D = some (.lst acc) := e2.keep _ _ hD (fun _ z => nomatch z) hμD
    refine ⟨wipeP ρ vw, μ1, x, _, hρ2, m2, r2, hstep, fun ρ3 σ3 hρ3 hwp hc => ?_⟩
    refine ⟨?_, ?_⟩
    · rw [hwp vw hsub]
      exact wipe_twice σ vw
    · refine ⟨ρ3, μ1, _, hρ3, m2, hc, fun b μ3 H3 m3 e3 p3 => ?_⟩
      have hD3 : H3 D = some (.lst acc) := e3.keep _ _ hD2 (fun _ z => nomatch z) hμD
      have hμ3 : μ3 D = none := e3.new _ hμD (by rw [hD2]; exact fun z => nomatch z)
      have e13 := e12.trans e3
      cases b with
      | false =>
        simp only [Bool.false_eq_true, if_false] at p3 ⊢
        exact ⟨μ3, accP, acc, rfl, hlt, Nat.le_succ_of_le hal, m3, e13, hD3, hμ3, (ra.mono ((e2.trans e3).tup m1)), p3⟩
      | true =>
        simp only [if_true] at p3 ⊢
        refine ⟨ρ3, μ3, _, XNo, hρ3.mono (e3.tup m2), m3, p3, fun v4 μ4 w4 H4 r4 m4 e4 p4 => ?_, fun _ _ _ _ _ _ _ _ z => z⟩
        refine mat_rep m4 r4 e4.dom p4 fun v5 μ5 r5 m5 e5 p5 => ?_
        have e35 : Ext μ3 H3 μ5 H4 := e5 _ e4
        have hD4 : H4 D = some (.lst acc) := e35.keep _ _ hD3 (fun _ z => nomatch z) hμ3
        have hμ5 : μ5 D = none := e35.new _ hμ3 (by rw [hD3]; exact fun z => nomatch z)
        have rA : RepVs K H4 accP acc := ra.mono (((e2.trans e3).trans e35).tup m1)
        refine ⟨acc, hD4, ?_, μ5, accP ++ [v5], acc ++ [w4], rfl, hlt, by simp; omega, m5.hidW hμ5 hD4, (e13.trans e35).late nD, upd_same, hμ5, ?_, p5⟩
        · rw [← ra.length]; omega
        · exact (rA.append (RepVs.cons r5 RepVs.nil)).mono (TupLe.lstW hD4)
  · have he : i = items.length := by omega
    subst he
    rw [List.drop_length] at cw1
    unfold compW at cw1
    obtain ⟨hst, hf⟩ := cw1
    refine .inl ⟨gw.stop μ1 H1 m1 ⟨e1, hst⟩, ?_⟩
    exact c (.tmp accP) μ1 (.ref D) H1 ⟨D, acc, rfl, e0.dom _ nD, hD, hμD, by omega, ra⟩ m1 (e0.trans e1) hf
theorem c_comp (hc : X.calm = true) (hN : X.N.Nodup) (hi : PI X pt pi (TIk X.K W wps k)) (ok : BlkOk X.N X.env.scope scope own) (hsub : ∀ i ∈ tgV tg, i ∈ own.map (·.2))
    (hg : ∀ (s : Shared) (H : Hp) (C : Addr) (cl : List (Str × Addr)) (fp : List Addr), PG (X.blk s H scope (compEnvC scope cl C X.env) fp) pt (gA X.K tg))
    (ht : ∀ (s : Shared) (H : Hp) (C : Addr) (cl : List (Str × Addr)) (fp : List Addr), PTs (X.blk s H scope (compEnvC scope cl C X.env) fp) pf (TBs X.K wc))
    (he : ∀ (s : Shared) (H : Hp) (C : Addr) (cl : List (Str × Addr)) (fp : List Addr), PE (X.blk s H scope (compEnvC scope cl C X.env) fp) pe (T X.K W0 we)) (hs : ∀ x, foldedSetIterable pi X.env x = pure x) :
    PE X (.ListComp pe [⟨pt, pi, pf, 0⟩] scope pos) (T X.K W (fun ρ μ P Y => wps ρ μ (fun vs μ1 => ∃ items, itemsOf μ1 k vs = some items ∧
      compW (fun μ' => itemsOf μ' k vs = some items) (fun x μ' k' => asgT tg x (wipeP ρ (own.map (·.2))) μ' fun ρ2 μ2 =>
        wc ρ2 μ2 (fun b μ3 => if b = true then we ρ2 μ3 (fun y μ4 => mat y μ4 fun y' μ5 => k' (some y') μ5) (fun _ _ => False) else k' none μ3))
        (fun acc μ' => P (.tmp acc) μ') items [] μ1) Y)) :=
  (pe_lc hc hN hi ok hg ht he hs).imp fun σ H Q h => lc_red hsub h
theorem c_setLc {i : Nat} {y : Str} {py spos : Pos} (hy : X.N[i]? = some y) (hyl : X.env.scope.names.lookup y = some .local) (hsw : swapsWith (.ListComp pe [⟨pt, pi, pf, 0⟩] scope pos) (some (.Name y py)) spos.line X.env = pure true)
    (hc : X.calm = true) (hN : X.N.Nodup) (hi : PI X pt pi (TIk X.K W wps k)) (ok : BlkOk X.N X.env.scope scope own) (hsub : ∀ i ∈ tgV tg, i ∈ own.map (·.2))
    (hg : ∀ (s : Shared) (H : Hp) (C : Addr) (cl : List (Str × Addr)) (fp : List Addr), PG (X.blk s H scope (compEnvC scope cl C X.env) fp) pt (gA X.K tg))
    (ht : ∀ (s : Shared) (H : Hp) (C : Addr) (cl : List (Str × Addr)) (fp : List Addr), PTs (X.blk s H scope (compEnvC scope cl C X.env) fp) pf (TBs X.K wc))
    (he : ∀ (s : Shared) (H : Hp) (C : Addr) (cl : List (Str × Addr)) (fp : List Addr), PE (X.blk s H scope (compEnvC scope cl C X.env) fp) pe (T X.K W0 we)) (hs : ∀ x, foldedSetIterable pi X.env x = pure x) :
    PS X (.Assign [.Name y py] (.ListComp pe [⟨pt, pi, pf, 0⟩] scope pos) spos) (tAsg (T X.K W (fun ρ μ P Y => wps ρ μ (fun vs μ1 => ∃ items, itemsOf μ1 k vs = some items ∧
      compW (fun μ' => itemsOf μ' k vs = some items) (fun x μ' k' => asgT tg x (wipeP ρ (own.map (·.2))) μ' fun ρ2 μ2 =>
        wc ρ2 μ2 (fun b μ3 => if b = true then we ρ2 μ3 (fun y μ4 => mat y μ4 fun y' μ5 => k' (some y') μ5) (fun _ _ => False) else k' none μ3))
        (fun acc μ' => P (.tmp acc) μ') items [] μ1) Y)) (gName i)) :=
  (ps_setLc hc hN hy hyl hsw hi ok hg ht he hs).imp fun D σ H h => lc_red hsub h
end
end G

namespace G
open PySem PySem.Spec PyProof.Rows L2
variable [tb : Tb]
theorem flat_red {K : PySem.W.Frag} {W : WX} {we : PE_ → PM → Post → XPost → Prop} {vs : List Nat} {i j : Nat} (hi : i ∈ vs) (hij : i ≠ j) {σ : St} {H : Hp} {Q : VK}
    (h : T K W (fun ρ μ P Y => we ρ μ (fun v μ1 => ∃ xss : List (List PV), v = .tup (xss.map .tup) ∧ xss.flatten.length ≤ 1000 ∧ i < ρ.length ∧ j < ρ.length ∧ P (.tmp xss.flatten) μ1) Y) σ H Q) :
    tLc2 (iTup K (T K W we)) (gName i) tYes (iTup K (tVar i)) (gName j) tYes (tVar j) vs [j] σ H Q := by
  obtain ⟨ρ, μ, P, Y, hρ, m, h, c, cx⟩ := h
  refine ⟨ρ, μ, _, Y, hρ, m, h, fun v μ1 w H1 r1 m1 e1 p1 => ?_, cx⟩
  obtain ⟨xss, rfl, hlen, li, lj, p⟩ := p1
  obtain ⟨a, ws, rfl, sq, hl, rv⟩ := (show RepV K H1 (.tup (xss.map .tup)) w from r1)
  have hρ1 := hρ.mono (e1.tup m)
  have hsl : σ.length = ρ.length := hρ.1.symm
  have hwl : ws.length = xss.length := by have := rv.length; simpa using this.symm
  have hs1000 : 1000 < sizeLine := by decide
  refine ⟨a, rfl, ⟨ws, sq⟩, fun D nD => ?_⟩
  have tl : ∀ acc, TupLe K H1 (upd H1 D (.lst acc)) := fun acc => (Ext.hid nD).tup m1
  refine ⟨fun n m' H' => ∃ acc : List V, m' = xss.length - n ∧ n ≤ xss.length ∧ H' = upd H1 D (.lst acc) ∧ RepVs K H1 (xss.take n).flatten acc, ⟨xss.length, [], rfl, Nat.zero_le _, rfl, rfl⟩, ?_⟩
  intro n m' H' hW
  obtain ⟨acc, rfl, hn, rfl, ra⟩ := hW
  by_cases hlt : n < xss.length
  · obtain ⟨xs, hxs⟩ : ∃ xs, xss[n]? = some xs := ⟨xss[n], List.getElem?_eq_getElem hlt⟩
    obtain ⟨wn, hwn, rn⟩ := rv.get (i := n) (x := .tup xs) (by rw [List.getElem?_map, hxs]; rfl)
    refine .inr ⟨⟨ws, wn, tl _ _ _ sq, hwn⟩, fun H'' => ∃ acc : List V, H'' = upd H1 D (.lst acc) ∧ RepVs K H1 (xss.take (n + 1)).flatten acc, (by rintro H'' ⟨acc, e, r⟩; exact ⟨xss.length - (n + 1), by omega, acc, rfl, hlt, e, r⟩), fun x H'' hy => ?_⟩
    obtain ⟨rfl, hx⟩ := hy
    have hx := hx ws (tl _ _ _ sq)
    rw [hwn] at hx
    cases hx
    obtain ⟨b, us, rfl, squ, hul, ru⟩ := (show RepV K H1 (.tup xs) wn from rn)
    have hul2 : us.length = xs.length := ru.length.symm
    refine ⟨(wipe_set hi).trans (wipe_twice σ vs), ?_⟩
    simp only [tYes, if_true]
    refine ⟨.ref b, by rw [List.getElem?_set_self (by rw [wipe_length]; omega)], b, rfl, ⟨us, tl _ _ _ squ⟩, ?_⟩
    have etk : (xss.take (n + 1)).flatten = (xss.take n).flatten ++ xs := by
      rw [List.take_succ, hxs]; simp
    refine ⟨fun q k H' => ∃ acc1 : List V, k = us.length - q ∧ q ≤ us.length ∧ H' = upd H1 D (.lst acc1) ∧ RepVs K H1 ((xss.take n).flatten ++ xs.take q) acc1, ⟨us.length, acc, rfl, Nat.zero_le _, rfl, by simpa using ra⟩, ?_⟩
    intro q k H' hW
    obtain ⟨acc1, rfl, hq, rfl, ra1⟩ := hW
    by_cases hlq : q < us.length
    · obtain ⟨y, hy⟩ : ∃ y, xs[q]? = some y := ⟨xs[q]'(by omega), List.getElem?_eq_getElem _⟩
      obtain ⟨wy, hwy, ry⟩ := ru.get hy
      refine .inr ⟨⟨us, wy, tl _ _ _ squ, hwy⟩, fun H'' => ∃ acc1 : List V, H'' = upd H1 D (.lst acc1) ∧ RepVs K H1 ((xss.take n).flatten ++ xs.take (q + 1)) acc1, (by rintro H'' ⟨acc1, e, r⟩; exact ⟨us.length - (q + 1), by omega, acc1, rfl, hlq, e, r⟩), fun x H'' hy2 => ?_⟩
      obtain ⟨rfl, hx⟩ := hy2
      have hx := hx us (tl _ _ _ squ)
      rw [hwy] at hx
      cases hx
      refine ⟨(wipe_set (List.mem_singleton.mpr rfl)).trans (wipe_twice _ _), ?_⟩
      simp only [tYes, if_true]
      refine ⟨wy, by rw [List.getElem?_set_self (by rw [wipe_length, List.length_set, wipe_length]; omega)], acc1, upd_same, ?_, acc1 ++ [wy], upd_upd, ?_⟩
      · have h1 := ra1.length
        have h2 : ((xss.take n).flatten ++ xs.take q).length ≤ xss.flatten.length := by
          have h3 : xss.flatten = (xss.take n).flatten ++ (xs ++ (xss.drop (n + 1)).flatten) := by
            conv => lhs; rw [← List.take_append_drop (n + 1) xss, List.flatten_append, etk, List.append_assoc]
          rw [h3]
          simp only [List.length_append, List.length_take]
          omega
        omega
      · have et : (xss.take n).flatten ++ xs.take (q + 1) = ((xss.take n).flatten ++ xs.take q) ++ [y] := by
          rw [List.take_succ, hy, List.append_assoc]; rfl
        rw [et]
        exact ra1.append (RepVs.cons ry RepVs.nil)
    · have he : q = us.length := by omega
      subst he
      refine .inl ⟨⟨us, tl _ _ _ squ, Nat.le_refl _⟩, acc1, rfl, ?_⟩
      rw [etk]
      rw [hul2, List.take_length] at ra1
      exact ra1
  · have he : n = xss.length := by omega
    subst he
    rw [List.take_length] at ra
    refine .inl ⟨⟨ws, tl _ _ _ sq, by omega⟩, ?_⟩
    exact c (.tmp xss.flatten) μ1 (.ref D) _ ⟨D, acc, rfl, e1.dom _ nD, upd_same, m1.none nD, by omega, ra.mono (tl _)⟩ (m1.hid nD) (e1.trans (Ext.hid nD)) p
section
variable {X : Cx} {W : WX} {x y : Str} {px py py2 px2 pos : Pos} {pi : Expr} {scope : Scope} {own : List (Str × Nat)} {i j : Nat} {we : PE_ → PM → Post → XPost → Prop}
theorem c_flat (hc : X.calm = true) (hN : X.N.Nodup) (he : PE X pi (T X.K W we)) (ok : BlkOk X.N X.env.scope scope own) (hi : i ∈ own.map (·.2)) (hj : j ∈ own.map (·.2)) (hij : i ≠ j) (ix : X.N[i]? = some x) (iy : X.N[j]? = some y)
    (lx : ∀ (s : Shared) (H : Hp) (C : Addr) (cl : List (Str × Addr)) (fp : List Addr), Loc (X.blk s H scope (compEnvC scope cl C X.env) fp).env.scope x ∧ ((X.blk s H scope (compEnvC scope cl C X.env) fp).fn x = true ∨ (X.blk s H scope (compEnvC scope cl C X.env) fp).env.scope.names.lookup x = some .local))
    (ly : ∀ (s : Shared) (H : Hp) (C : Addr) (cl : List (Str × Addr)) (fp : List Addr), Loc (X.blk s H scope (compEnvC scope cl C X.env) fp).env.scope y ∧ ((X.blk s H scope (compEnvC scope cl C X.env) fp).fn y = true ∨ (X.blk s H scope (compEnvC scope cl C X.env) fp).env.scope.names.lookup y = some .local))
    (vx : ∀ (s : Shared) (H : Hp) (C : Addr) (cl : List (Str × Addr)) (fp : List Addr), Vis (X.blk s H scope (compEnvC scope cl C X.env) fp).env.scope x) (vy : ∀ (s : Shared) (H : Hp) (C : Addr) (cl : List (Str × Addr)) (fp : List Addr), Vis (X.blk s H scope (compEnvC scope cl C X.env) fp).env.scope y)
    (dx : (x == ("__debug__" : Str)) = false) (dx2 : (x == ("__classdict__" : Str)) = false) (dy : (y == ("__debug__" : Str)) = false) (dy2 : (y == ("__classdict__" : Str)) = false) (hs : ∀ z, foldedSetIterable pi X.env z = pure z) :
    PE X (.ListComp (.Name y py) [⟨.Name x px, pi, [], 0⟩, ⟨.Name y py2, .Name x px2, [], 0⟩] scope pos) (T X.K W (fun ρ μ P Y => we ρ μ (fun v μ1 => ∃ xss : List (List PV), v = .tup (xss.map .tup) ∧ xss.flatten.length ≤ 1000 ∧ i < ρ.length ∧ j < ρ.length ∧ P (.tmp xss.flatten) μ1) Y)) := by
  refine (pe_lc2 (vs1 := [j]) (wi := iTup X.K (T X.K W we)) (g := gName i) (tt := tYes) (wi1 := iTup X.K (tVar i)) (g1 := gName j) (tt1 := tYes) (te := tVar j) hc hN (pi_tup he) ok (fun k hk => by rw [List.mem_singleton] at hk; subst hk; exact hj)
    (fun s H C cl fp => pg_name (X := X.blk s H scope (compEnvC scope cl C X.env) fp) hN ix (lx s H C cl fp).1 (lx s H C cl fp).2) (fun s H C cl fp => pts_nil)
    (fun s H C cl fp => pi_tup (X := X.blk s H scope (compEnvC scope cl C X.env) fp) (pe_var ix (vx s H C cl fp) dx dx2))
    (fun s H C cl fp => pg_name (X := X.blk s H scope (compEnvC scope cl C X.env) fp) hN iy (ly s H C cl fp).1 (ly s H C cl fp).2) (fun s H C cl fp => pts_nil)
    (fun s H C cl fp => pe_var (X := X.blk s H scope (compEnvC scope cl C X.env) fp) iy (vy s H C cl fp) dy dy2) hs (fun _ _ => rfl)).imp fun σ H Q h => ?_
  exact flat_red hi hij h
end
end G

namespace G
open PySem PySem.Spec PyProof.Rows L2 HotX
/-- an exception's object whose context is None -/
def HotO (h : Heap) (x1 : Addr) : Prop := ∃ (o : Obj) (vs : Array Value), h.get? x1 = some o ∧ o.data = .fields vs ∧ vs[2]? = some .none
theorem nextOf_list_end_hot {prog : Program} {w : World} {A : Around} {E : Value → Shared → Prop} {s : Shared} {it l x1 : Addr} {i : Nat} {items : Array Value} {Q : Value → Shared → Prop} (hh : A.handled = some (.ref x1)) (ho1 : HotO s.heap x1) (hne : x1 ≠ it)
    (hit : s.heap.IsListIter it l i) (hl : s.heap.IsList l items) (hx : items[i]? = none)
    (hE : ∀ h' e, Heap.ExtBut it s.heap h' → (∃ o, h'.get? e = some o ∧ o.cls = .type "StopIteration") → E (.ref e) { s with heap := h' }) :
    wpAny (model prog w) A (Builtin.SmallTypes.nextOf (.ref it)) Q E s := by
  obtain ⟨o, ho, hc, hd⟩ := id hit
  obtain ⟨ol, hol, _, nl, hdl⟩ := hl
  obtain ⟨o1, vs1, h1, d1, c1⟩ := ho1
  unfold Builtin.SmallTypes.nextOf
  refine wpAny_bind (wpAny_callSpecial?_slot (name := Str.ofString "__next__") hit.typeIs slot_listiter_next
    (wpAny_call_entry slot_listiter_next hit.typeIs entry_listiter_next ?_ (args_listiter_next _)))
  show wpAny _ _ (field (.ref it) 0 >>= _) _ _ s
  refine wpAny_bind (wpAny_field ho hd (x := .ref l) rfl ?_)
  show wpAny _ _ (if (Value.ref l == Value.none) = true then _ else _) _ _ s
  rw [if_neg (show ¬ ((Value.ref l == Value.none) = true) from Bool.false_ne_true)]
  show wpAny _ _ (field (.ref it) 1 >>= _) _ _ s
  refine wpAny_bind (wpAny_field ho hd (x := .int i 0) rfl ?_)
  show wpAny _ _ (seqItems? (.ref l) >>= _) _ _ s
  refine wpAny_bind (wpAny_seqItems hol hdl ?_)
  simp only [Int.toNat_natCast, hx]
  refine wpAny_bind (wpAny_rule (wpAny_bind (wpAny_setField ho hd (by simp) ?_)))
  show wpAny _ _ (newExc (.type "StopIteration") [] >>= _) _ _ _
  refine wpAny_bind ?_
  simp only [newExc, newTuple]
  refine wpAny_bind (wpAny_newObj_type ?_ (by size_fits))
  refine wpAny_bind (m := firstArgMember _ _) (wpAny_of_eq (a := Value.none) (by first | rfl | (simp only [firstArgMember]; rfl)) ?_)
  refine wpAny_newObj_type ?_ (by size_fits)
  have u1 : (s.heap.update it (Obj.mapFields (·.setIfInBounds 0 .none))).get? x1 = some o1 := by rw [Heap.get?_update_other _ _ hne.symm]; exact h1
  refine raiseNew_hot ⟨hh, o1, vs1, Heap.get?_push_of_some _ (Heap.get?_push_of_some _ u1), d1, c1⟩ (Nat.ne_of_lt (Heap.lt_size (Heap.get?_push_of_some _ u1))) (Heap.get?_push_size _ rfl) rfl (by first | (simp; done) | (simp; omega) | (simp only [Array.size_append]; simp; omega)) ?_
  refine hE _ _ (fun b o hb e => ?_) ⟨_, Heap.get?_update_self _ (Heap.get?_push_size _ rfl) rfl, rfl⟩
  have e1 : (s.heap.update it (Obj.mapFields (·.setIfInBounds 0 .none))).get? b = some o := by rw [Heap.get?_update_other _ _ (Ne.symm hb)]; exact e
  rw [Heap.get?_update_other _ _ (Nat.ne_of_gt (Heap.lt_size (Heap.get?_push_of_some _ e1)))]
  exact Heap.get?_push_of_some _ (Heap.get?_push_of_some _ e1)
theorem HotO.keep {h h' : Heap} {x1 : Addr} (ho : HotO h x1) (k : ∀ o, h.get? x1 = some o → h'.get? x1 = some o) : HotO h' x1 := by
  obtain ⟨o, vs, h1, d, c⟩ := ho
  exact ⟨o, vs, k o h1, d, c⟩
theorem Draws.listHot {prog : Program} {w : World} {A : Around} {x1 : Addr} (hh : A.handled = some (.ref x1)) (it l : Addr) (hne : l ≠ it) (hx : x1 ≠ it) (items : Array Value) :
    Draws prog w A it [it, l, x1] items.size (fun i v => items[i]? = some v) (fun i h => h.IsListIter it l i ∧ h.IsList l items ∧ HotO h x1) where
  live := fun _ _ st => let ⟨o, ho, _⟩ := st.1; ⟨o, ho⟩
  frame := fun _ _ _ st hk => ⟨st.1.at fun o e => hk it (by simp) o e, st.2.1.at fun o e => hk l (by simp) o e, st.2.2.keep fun o e => hk x1 (by simp) o e⟩
  item := fun i s Q E hi st hQ => by
    refine wpAny_nextOf_list_item st.1 st.2.1 (x := items[i]) (by simp [hi]) fun h' hit' hs' => ?_
    exact hQ _ h' s.toks (by simp [hi]) ⟨hit', st.2.1.extBut hs'.extBut hne, st.2.2.keep fun o e => hs'.extBut _ _ hx e⟩ hs'
  done := fun s Q E st hE => nextOf_list_end_hot hh st.2.2 hx st.1 st.2.1 (by simp) hE
end G

namespace G
open PySem PySem.Spec PyProof.Rows L2 L2H
variable [tb : Tb]
/-- the handled exception's object is pinned -/
def HotP (X : Cx) (pins : List (Addr × Obj)) : Prop := ∃ p : Addr × Obj, Hot1 X.A p ∧ p ∈ X.pn ++ pins
structure TurnP (P : Program) (w : World) (K : PySem.W.Frag) (tg : Expr) (J : It) (fp : List Addr) (it : Addr) (tn : Nat → Heap → Prop) : Prop where
  mem : it ∈ fp
  obj : ∀ i h, tn i h → ∀ b ∈ fp, ∃ o, h.get? b = some o ∧ ∀ v, o.data ≠ .cell v
  keep : ∀ i h h', tn i h → (∀ b ∈ fp, ∀ o, h.get? b = some o → h'.get? b = some o) → tn i h'
  item : ∀ (X : Cx), X.prog = P → X.w = w → X.K = K → ∀ (i : Nat) (pins : List (Addr × Obj)) (s : Shared) (σ : St) (H : Hp) (E : Value → Shared → Prop), HotP X pins → Inv X pins σ H s → (∀ b ∈ fp, FpOk X pins H b) → tn i s.heap → J.go i H →
    wpAny (model P w) X.A (pyNext (.ref it)) (fun r s1 => ∃ u, r = some u ∧
      wpAny (model P w) X.A (letOwnedTupleGo tg (.ref it) u) (fun _ s2 => ∃ x H', Inv X pins σ H' s2 ∧ RelV x u ∧ J.yld i H x H' ∧ tn (i + 1) s2.heap ∧ ∀ b ∈ fp, H' b = none) E s1) E s
  done : ∀ (X : Cx), X.prog = P → X.w = w → X.K = K → ∀ (i : Nat) (pins : List (Addr × Obj)) (s : Shared) (σ : St) (H : Hp) (E : Value → Shared → Prop), HotP X pins → Inv X pins σ H s → (∀ b ∈ fp, FpOk X pins H b) → tn i s.heap → J.stop i H →
    wpAny (model P w) X.A (pyNext (.ref it)) (fun r s1 => r = none ∧ Inv X pins σ H s1) E s
  self : ∀ (A : Around) (i : Nat) (s : Shared) (Q : Value → Shared → Prop) (E : Value → Shared → Prop), tn i s.heap → Q (.ref it) s → wpAny (model P w) A (pyIter (.ref it)) Q E s
section
variable {X : Cx} {pins : List (Addr × Obj)} {σ : St} {H : Hp} {s : Shared}
/-- a list draws its items -/
theorem drawP {a it x1 : Addr} {i : Nat} {vs : List V} (A : Around) (hh : A.handled = some (.ref x1)) (ho : HotO s.heap x1) (hx : x1 ≠ it) (I : Inv X pins σ H s) (h : SqL X.K H a vs) (z : s.heap.IsListIter it a i) :
    ∃ S : Nat → Heap → Prop, Draws X.prog X.w A it [it, a, x1] vs.length (fun i v => ∃ w, vs[i]? = some w ∧ RelV w v) S ∧ S i s.heap ∧ ∀ j h, S j h → h.IsListIter it a j := by
  obtain ⟨its, r, p, _⟩ := I.list h
  have ne : a ≠ it := fun e => by
    subst e
    obtain ⟨o, h1, h2, _⟩ := z
    obtain ⟨o', _, h3, h4, _⟩ := p
    rw [h1] at h3; cases h3
    rw [h2] at h4; exact absurd h4 (by decide +kernel)
  have D := Draws.listHot (prog := X.prog) (w := X.w) (A := A) hh it a ne hx its.toArray
  have e : its.toArray.size = vs.length := by simp [r.length]
  refine ⟨_, ⟨D.live, D.frame, fun i s Q E hi st hQ => D.item i s Q E (by omega) st fun x h' tk hp => hQ x h' tk (vals_get r (by simpa using hp)), fun s Q E st hE => D.done s Q E (by rw [e]; exact st) hE⟩, ⟨z, p.isList, ho⟩, fun j h q => q.1⟩
end
theorem turn_zipP {P : Program} {w : World} {K : PySem.W.Frag} {elts : List Expr} {kk : Nat} {tpos : Pos} (a1 a2 : Addr) {z TI TO i1 i2 : Addr} (D : Ap2 z TI TO i1 i2) :
    TurnP P w K (.Tuple elts kk tpos) (JZ K (.l a1) (.l a2)) [z, TI, TO, i1, i2] z (fun i h => IsZip h z TI TO .none ∧ IsTupOf2 h TI (.ref i1) (.ref i2) ∧ (∃ x y, IsTupOf2 h TO x y) ∧ (SK.l a1).It i1 i h ∧ (SK.l a2).It i2 i h) where
  mem := by simp
  obj := (turn_zipG (P := P) (w := w) (K := K) (elts := elts) (kk := kk) (tpos := tpos) (.l a1) (.l a2) D).obj
  keep := (turn_zipG (P := P) (w := w) (K := K) (elts := elts) (kk := kk) (tpos := tpos) (.l a1) (.l a2) D).keep
  item := by
    intro X hP hw hK i pins s σ H E hc I hf st hg
    subst hP hw hK
    obtain ⟨hz, hTI, ⟨x0, y0, hTO⟩, q1, q2⟩ := st
    obtain ⟨vs, ws, hv, hw', hlt⟩ := hg
    obtain ⟨p, ⟨hh, v1, e1, c1⟩, hp⟩ := hc
    have pk := I.pin p hp
    have ho : HotO s.heap p.1 := ⟨p.2, v1, pk.1, e1, c1⟩
    have npf : ∀ b ∈ [z, TI, TO, i1, i2], p.1 ≠ b := fun b hb e => (hf b hb).2.2.2.2.2 p hp e
    obtain ⟨S1, D1, s1, sI1⟩ := drawP X.A.in1 hh ho (npf i1 (by simp)) I hv q1
    obtain ⟨S2, D2, s2, sI2⟩ := drawP X.A.in1 hh ho (npf i2 (by simp)) I hw' q2
    have nin : ∀ {b : Addr} {a it : Addr} {us : List V}, SqL X.K H a us → b ∈ [z, TI, TO, i1, i2] → b ≠ it → b ∉ [it, a, p.1] := fun {b a it us} hu hb ne q => by
      simp only [List.mem_cons, List.not_mem_nil, or_false] at q
      rcases q with q | q | q
      · exact ne q
      · exact SK.apart (k := .l a) I hu (hf _ hb) (by simp [SK.cells, q])
      · exact npf b hb q.symm
    have Sp : ZipSep2 z TI TO i1 i2 [i1, a1, p.1] [i2, a2, p.1] :=
      { TIz := D.TIz, TOz := D.TOz, TITO := D.TITO, TIi1 := D.TIi1, mem1 := List.mem_cons_self .., zf1 := nin hv (by simp) D.z1, Tf1 := nin hv (by simp) D.T1, TIi2 := D.TIi2, mem2 := List.mem_cons_self ..,
        zf2 := nin hw' (by simp) D.z2, Tf2 := nin hw' (by simp) D.T2, sep1_2 := nin hw' (by simp) D.i12, sep2_1 := nin hv (by simp) D.i12.symm }
    have W := WalksT.zipD2 Sp D1 D2
    refine W.item i s _ _ hlt ⟨hz, hTI, ⟨_, _, hTO⟩, s1, s2⟩ fun T vals h' tk hp hT0 hT hmid hk => ?_
    refine ⟨_, rfl, W.go _ _ _ i T _ _ _ hmid fun h'' st'' hk'' => ?_⟩
    obtain ⟨x1, x2, ⟨w1, a1, b1⟩, ⟨w2, a2, b2⟩, rfl⟩ := hp
    have hk2 : ∀ b o, b ∉ [z, TI, TO, i1, i2] → s.heap.get? b = some o → h''.get? b = some o := fun b o hb q =>
      have hb' : b ∉ [z, TO, i1, i2] := fun q => hb (by simp at q ⊢; rcases q with q | q | q | q <;> simp [q])
      hk'' b o hb' (hk b o hb' q)
    have hT2 : h''.IsTuple T #[x1, x2] := by
      obtain ⟨o, h1, h2⟩ := hT
      exact ⟨o, hk'' T o (W.apart _ _ _ hmid) h1, h2⟩
    have new : ObjOk X.prog X.w (upd H T (.tup [w1, w2])) h'' T (.tup [w1, w2]) :=
      ⟨by show 2 ≤ sizeLine; rw [sizeLine_eq]; decide, [x1, x2], .cons b1 (.cons b2 .nil), hT2⟩
    have I1 : Inv X pins σ (upd H T (.tup [w1, w2])) { s with heap := h'', toks := tk } := I.turnedNew (t' := tk) (ch := [z, TI, TO, i1, i2]) hk2 hf hT0 new
    obtain ⟨z'', TI'', TO'', t1, t2⟩ := st''
    refine ⟨.ref T, _, I1, rfl, ⟨T, w1, w2, rfl, I.hok.fresh hT0, rfl, fun us hu => by rw [SK.inj I hu hv]; exact a1, fun us hu => by rw [SK.inj I hu hw']; exact a2⟩, ⟨z'', TI'', TO'', sI1 _ _ t1, sI2 _ _ t2⟩, fun b hb => ?_⟩
    have hb' : b < s.heap.objs.size := by
      have e' : b = z ∨ b = TI ∨ b = TO ∨ b = i1 ∨ b = i2 := by simpa using hb
      rcases e' with q | q | q | q | q
      · rw [q]; exact Heap.lt_size hz
      · rw [q]; exact Heap.lt_size hTI
      · rw [q]; exact Heap.lt_size hTO
      · rw [q]; obtain ⟨_, _, _, e1, _⟩ := q1.get; exact Heap.lt_size e1
      · rw [q]; obtain ⟨_, _, _, e1, _⟩ := q2.get; exact Heap.lt_size e1
    rw [upd_ne (Nat.ne_of_lt (Nat.lt_of_lt_of_le hb' hT0))]
    exact (hf b hb).1
  done := by
    intro X hP hw hK i pins s σ H E hc I hf st hg
    subst hP hw hK
    obtain ⟨hz, hTI, ⟨x0, y0, hTO⟩, q1, q2⟩ := st
    obtain ⟨vs, ws, hv, hw', rfl⟩ := hg
    obtain ⟨p, ⟨hh, v1, e1, c1⟩, hp⟩ := hc
    have pk := I.pin p hp
    have ho : HotO s.heap p.1 := ⟨p.2, v1, pk.1, e1, c1⟩
    have npf : ∀ b ∈ [z, TI, TO, i1, i2], p.1 ≠ b := fun b hb e => (hf b hb).2.2.2.2.2 p hp e
    obtain ⟨S1, D1, s1, sI1⟩ := drawP X.A.in1 hh ho (npf i1 (by simp)) I hv q1
    obtain ⟨S2, D2, s2, sI2⟩ := drawP X.A.in1 hh ho (npf i2 (by simp)) I hw' q2
    have nin : ∀ {b : Addr} {a it : Addr} {us : List V}, SqL X.K H a us → b ∈ [z, TI, TO, i1, i2] → b ≠ it → b ∉ [it, a, p.1] := fun {b a it us} hu hb ne q => by
      simp only [List.mem_cons, List.not_mem_nil, or_false] at q
      rcases q with q | q | q
      · exact ne q
      · exact SK.apart (k := .l a) I hu (hf _ hb) (by simp [SK.cells, q])
      · exact npf b hb q.symm
    have Sp : ZipSep2 z TI TO i1 i2 [i1, a1, p.1] [i2, a2, p.1] :=
      { TIz := D.TIz, TOz := D.TOz, TITO := D.TITO, TIi1 := D.TIi1, mem1 := List.mem_cons_self .., zf1 := nin hv (by simp) D.z1, Tf1 := nin hv (by simp) D.T1, TIi2 := D.TIi2, mem2 := List.mem_cons_self ..,
        zf2 := nin hw' (by simp) D.z2, Tf2 := nin hw' (by simp) D.T2, sep1_2 := nin hw' (by simp) D.i12, sep2_1 := nin hv (by simp) D.i12.symm }
    exact (WalksT.zipD2 Sp D1 D2).done s _ _ ⟨hz, hTI, ⟨_, _, hTO⟩, s1, s2⟩ fun h' tk hk => ⟨rfl, I.turnedL (t' := tk) (ch := [z, TI, TO, i1, i2]) (fun b o hb q =>
      have hb' : b ∉ [z, TO, i1, i2] := fun q => hb (by simp at q ⊢; rcases q with q | q | q | q <;> simp [q])
      hk b o hb' q) hf⟩
  self := fun A i s Q E st h => wpAny_pyIter_zip st.1 h
end G

namespace G
open PySem PySem.Spec PyProof.Rows L2 L2H
variable [tb : Tb]
/-- what an iterator made in the hot state gives -/
def Made (X : Cx) (pins : List (Addr × Obj)) (σ : St) (tg : Expr) (R : It → Hp → Prop) (v : Value) (s : Shared) : Prop :=
  ∃ (it : Addr) (fp : List Addr) (tn : Nat → Heap → Prop) (J : It) (H : Hp), v = .ref it ∧ TurnP X.prog X.w X.K tg J fp it tn ∧ tn 0 s.heap ∧ Inv X pins σ H s ∧ (∀ b ∈ fp, FpOk X pins H b) ∧ R J H
structure PIP (X : Cx) (tg iter : Expr) (wi : TI) : Prop where
  go : ∀ {pins : List (Addr × Obj)} {s : Shared} {σ : St} {H : Hp} {R : It → Hp → Prop}, Inv X pins σ H s → wi σ H R →
    wpAny (model X.prog X.w) X.A (eval iter X.env) (fun x s1 => wpAny (model X.prog X.w) X.A (pyIter x) (Made X pins σ tg R) X.xe s1) X.xe s
/-- what stands ahead of each turn of the block's loop -/
def AtTurn (Y : Cx) (fp : List Addr) (tn : Nat → Heap → Prop) (ρ : St) (W : Nat → Nat → Hp → Prop) (n : Nat) (s : Shared) : Prop :=
  ∃ i H, W i n H ∧ tn i s.heap ∧ Inv Y [] ρ H s ∧ ∀ b ∈ fp, H b = none
section
variable {Y : Cx} {p : Addr × Obj} {fp : List Addr} {tn : Nat → Heap → Prop} {ρ σ8 : St} {W : Nat → Nat → Hp → Prop}
/-- behind a turn: what was pinned for it is let go -/
theorem AtTurn.next {tg : Expr} {J : It} {it : Addr} (T : TurnP Y.prog Y.w Y.K tg J fp it tn) {i m : Nat} {s7 s' : Shared} {H' : Hp} (st : tn i s7.heap) (I : Inv Y ([] ++ pinsAt fp s7.heap) σ8 H' s') (hl : ρ.length = σ8.length)
    (hr : ∀ (j : Nat) v, ρ[j]? = some (some v) → σ8[j]? = some (some v)) (w : W i m H') : AtTurn Y fp tn ρ W m s' := by
  have held : ∀ b ∈ fp, ∀ o, s7.heap.get? b = some o → s'.heap.get? b = some o ∧ H' b = none := fun b hb o e => by
    have k := I.pin (b, o) (List.mem_append_right _ (List.mem_append_right _ (mem_pinsAt hb e)))
    exact ⟨k.1, k.2.1⟩
  refine ⟨i, H', w, T.keep _ _ _ st fun b hb o e => (held b hb o e).1, (Inv.unpinned (pins := []) I).weak hl hr, fun b hb => ?_⟩
  obtain ⟨o, e, _⟩ := T.obj _ _ st b hb
  exact (held b hb o e).2
/-- the loop -/
theorem block_loop {tg elt iter : Expr} {ifs : List Expr} {scope : Scope} {pos : Pos} {J : It} {it D : Addr} {g : TG} {tt : TT} {te : TE} {σ : St} {vs : List Nat} {Done : Hp → Prop} {R : Result → Shared → Prop}
    (T : TurnP Y.prog Y.w Y.K tg J fp it tn) (h1 : Hot1 Y.A p) (hpn : p ∈ Y.pn) (pg : PG Y tg g) (pt : PTs Y ifs tt) (pe : PE Y elt te) (hx : Y.xe = fun _ _ => False)
    (fo : ∀ {ρ' : St} {H : Hp} {s : Shared}, Inv Y [] ρ' H s → (∀ b ∈ fp, H b = none) → ∀ b ∈ fp, FpOk Y [] H b)
    (turn : ∀ i m H, W i m H → (J.stop i H ∧ Done H) ∨ (J.go i H ∧ ∃ Nx : Hp → Prop, (∀ H', Nx H' → ∃ m', m' < m ∧ W (i + 1) m' H') ∧ ∀ x H', J.yld i H x H' → g x (wipe σ vs) H' fun σ2 H2 => wipe σ2 vs = wipe σ vs ∧ tt σ2 H2 fun b H3 =>
      if b = true then te σ2 H3 fun y H4 => ∃ acc, H4 D = some (.lst acc) ∧ acc.length < sizeLine ∧ Nx (upd H4 D (.lst (acc ++ [y]))) else Nx H3))
    (out : ∀ H s, Inv Y [] (wipe σ vs) H s → Done H → R (.ok .next) s) (n : Nat) (s : Shared) (h : AtTurn Y fp tn (wipe σ vs) W n s) :
    codeAny (model Y.prog Y.w) Y.A (.compLoop (.ListComp elt [⟨tg, iter, ifs, 0⟩] scope pos) 0 (.ref it) (.ref D) Y.env) R s := by
  refine compLoop_any (AtTurn Y fp tn (wipe σ vs) W) (fun k z hz => ?_) n h
  obtain ⟨i, H, w, st, I, nf⟩ := hz
  have hot : HotP Y [] := ⟨p, h1, by simpa using hpn⟩
  rcases turn i k H w with ⟨a, d⟩ | ⟨a, Nx, less, body⟩
  · refine thnF (T.done Y rfl rfl rfl i [] z _ H (fun _ _ => False) hot I (fo I nf) st a) ?_
    rintro _ z1 ⟨rfl, I1⟩
    exact out _ _ I1 d
  refine thnF (T.item Y rfl rfl rfl i [] z _ H (fun _ _ => False) hot I (fo I nf) st a) ?_
  rintro _ z1 ⟨u, rfl, r1⟩
  refine thnF r1 ?_
  rintro _ z2 ⟨x, H2, I2, rx, yx, st2, nf2⟩
  have P2 := I2.pinned (fo I2 nf2) (T.obj _ _ st2)
  have a1 := pg.run _ z2 _ H2 x u _ P2 rx (body x H2 yx)
  rw [hx] at a1
  refine thnF a1 ?_
  rintro _ z3 ⟨σ3, H3, I3, hw, q3⟩
  have a2 := pt.run _ z3 σ3 H3 _ I3 q3
  rw [hx] at a2
  have over : ∀ {z' : Shared} {H' : Hp}, Inv Y ([] ++ pinsAt fp z2.heap) σ3 H' z' → Nx H' → ∃ m, m < k ∧ AtTurn Y fp tn (wipe σ vs) W m z' := fun {z' H'} J1 nx => by
    obtain ⟨m, lt, w'⟩ := less _ nx
    exact ⟨m, lt, AtTurn.next T st2 J1 (by rw [← hw, wipe_length]) (fun j v e => (wipe_some (by rw [hw]; exact e)).1) w'⟩
  refine thnF a2 ?_
  rintro b z4 ⟨H4, I4, q4⟩
  cases b
  · exact over I4 (by simpa using q4)
  · have q4' : te σ3 H4 fun y H5 => ∃ acc, H5 D = some (.lst acc) ∧ acc.length < sizeLine ∧ Nx (upd H5 D (.lst (acc ++ [y]))) := by simpa using q4
    have a3 := pe.run _ z4 σ3 H4 _ I4 q4'
    rw [hx] at a3
    show wpAny _ _ (eval elt Y.env) _ _ z4
    refine thnF a3 ?_
    rintro v z5 ⟨y, H5, I5, ry, acc, e5, l5, nx⟩
    exact app_ok I5 e5 l5 ry fun z6 I6 => over I6 nx
end
end G

namespace G
open PySem PySem.Spec PyProof.Rows L2 L2H
variable [tb : Tb]
section
variable {X : Cx} {pins : List (Addr × Obj)} {σ : St} {p : Addr × Obj} {elt tg iter : Expr} {ifs : List Expr} {scope : Scope} {own : List (Str × Nat)} {pos pos' : Pos} {wi : TI} {g : TG} {tt : TT} {te : TE}
/-- the block's environment -/
abbrev blkEnv (X : Cx) (scope : Scope) (s : Shared) : Env := compEnvC scope (cellsFrom (s.heap.objs.size + 1) scope.names (cloFrom X.env.cells scope.names [])) s.heap.objs.size X.env
abbrev blkSt (scope : Scope) (s : Shared) : Shared := { s with heap := pushCells (s.heap.push { cls := .type "dict", data := .dict #[] }) scope.names }
theorem blk_keeps {scope : Scope} {s : Shared} {b : Addr} {o : Obj} (e : s.heap.get? b = some o) : (blkSt scope s).heap.get? b = some o := pushCells_keeps _ _ _ _ (Heap.get?_push_of_some _ e)
/-- the block's context, the handled exception's object pinned -/
abbrev blkP (X : Cx) (p : Addr × Obj) (s : Shared) (H : Hp) (scope : Scope) (env : Env) (fp : List Addr) : Cx := { X.blk s H scope env fp with pn := [p] }
/-- the handled exception's object lies apart from the block -/
theorem pin_blk {H : Hp} {s : Shared} {fp : List Addr} (hp : p ∈ X.pn ++ pins) (I : Inv X pins σ H s) {ρ : St} (J : Inv (X.blk s H scope (blkEnv X scope s) fp) [] ρ H (blkSt scope s)) : Inv (blkP X p s H scope (blkEnv X scope s) fp) [] ρ H (blkSt scope s) := by
  obtain ⟨g1, g2, g3, g4, g5⟩ := I.pin p hp
  have lt := Heap.lt_size g1
  refine ⟨⟨J.ok.mod, J.ok.kind, J.ok.glob, J.ok.blt, J.ok.above, J.ok.inj, J.ok.has, J.ok.cab, J.ok.hd, J.ok.frames, J.ok.stk, J.ok.exf, J.ok.bs, J.ok.bsz, J.ok.noex, J.ok.exfs, J.ok.funs, J.ok.frf⟩, J.os, J.bare, J.base, J.loc, J.cell, J.free, J.freeC, fun q hq => ?_, J.hok, J.len⟩
  obtain rfl : q = p := by simpa using hq
  refine ⟨blk_keeps g1, g2, Nat.ne_of_lt lt, ?_, g5⟩
  show q.1 ∉ frs X.stack
  rcases I.ok.stk with z | ⟨z, zf⟩
  · rw [z]; exact g4
  · rw [z]
    intro hm
    obtain ⟨en, he, e2⟩ := List.mem_filterMap.mp hm
    rcases List.mem_cons.mp he with rfl | he
    · rw [zf] at e2
      exact g3 (Option.some.inj e2).symm
    · exact g4 (List.mem_filterMap.mpr ⟨en, he, e2⟩)
/-- the block, from the new list on -/
theorem block_hot {D it : Addr} {J : It} {fp : List Addr} {tn : Nat → Heap → Prop} {H : Hp} {s : Shared} {m0 : Nat} {W : Nat → Nat → Hp → Prop} {Done : Hp → Prop} {R : Result → Shared → Prop}
    (h1 : Hot1 X.A p) (hp : p ∈ X.pn ++ pins) (hN : X.N.Nodup) (ok : BlkOk X.N X.env.scope scope own) (I : Inv X pins σ H s) (T : TurnP X.prog X.w X.K tg J fp it tn) (st : tn 0 s.heap) (fo : ∀ b ∈ fp, FpOk X pins H b ∧ b < s.heap.objs.size) (w0 : W 0 m0 H)
    (hg : ∀ (s : Shared) (H : Hp) (C : Addr) (cl : List (Str × Addr)) (fp : List Addr), PG (blkP X p s H scope (compEnvC scope cl C X.env) fp) tg g) (ht : ∀ (s : Shared) (H : Hp) (C : Addr) (cl : List (Str × Addr)) (fp : List Addr), PTs (blkP X p s H scope (compEnvC scope cl C X.env) fp) ifs tt)
    (he : ∀ (s : Shared) (H : Hp) (C : Addr) (cl : List (Str × Addr)) (fp : List Addr), PE (blkP X p s H scope (compEnvC scope cl C X.env) fp) elt te)
    (turn : ∀ i m H, W i m H → (J.stop i H ∧ Done H) ∨ (J.go i H ∧ ∃ Nx : Hp → Prop, (∀ H', Nx H' → ∃ m', m' < m ∧ W (i + 1) m' H') ∧ ∀ x H', J.yld i H x H' → g x (wipe σ (own.map (·.2))) H' fun σ2 H2 => wipe σ2 (own.map (·.2)) = wipe σ (own.map (·.2)) ∧ tt σ2 H2 fun b H3 =>
      if b = true then te σ2 H3 fun y H4 => ∃ acc, H4 D = some (.lst acc) ∧ acc.length < sizeLine ∧ Nx (upd H4 D (.lst (acc ++ [y]))) else Nx H3))
    (out : ∀ C s' m H', Inv X pins σ H' s' → Done H' → s'.heap.Ns C m → FpOk X pins H' C → C = s.heap.objs.size → R (.ok .next) s') :
    codeAny (model X.prog X.w) X.A (.compStart (.ListComp elt [⟨tg, iter, ifs, 0⟩] scope pos) 0 (.ref it) (.ref D) (blkEnv X scope s)) R (blkSt scope s) := by
  have I0 := pin_blk hp I (block_start I ok hN fo)
  have st0 : tn 0 (blkSt scope s).heap := T.keep _ _ _ st fun b _ o e => blk_keeps e
  have loop := block_loop (Y := blkP X p s H scope (blkEnv X scope s) fp) (elt := elt) (iter := iter) (ifs := ifs) (scope := scope) (pos := pos) (D := D) (vs := own.map (·.2)) (σ := σ) (W := W) (Done := Done) (R := R) T h1 (by simp) (hg _ _ _ _ _) (ht _ _ _ _ _) (he _ _ _ _ _) rfl
    (fun {ρ' H' s'} I' hn b hb => ⟨hn b hb, (I'.ok.exf b hb).1, I'.ok.exfs b hb, .inl hb, fun x c e => (I'.ok.exf b hb).2 x c e, fun q hq => by
      obtain rfl : q = p := by simpa using hq
      exact (fo b hb).1.2.2.2.2.2 q hp⟩)
    turn (fun H' s' I' d => by
      have back : Inv X pins σ H' s' := I.call' (ch := fp) I'.os I'.base I'.hok I'.bare fun b hb => by
        obtain ⟨_, k2, _, k4, k5, k6⟩ := (fo b hb).1
        exact ⟨k4, k2, k5, k6⟩
      obtain ⟨m, hm, _⟩ := I'.loc
      exact out _ s' m H' back d hm (I.fpOk (Nat.le_refl _) I'.free) rfl) m0 _ ⟨0, H, w0, st0, I0, fun b hb => (fo b hb).1.1⟩
  exact codeAny_compStart_list loop (T.self X.A 0 _ _ _ st0 loop)
/-- [elt for target in iter if ..], its value used by `use` -/
theorem comp_hot {s : Shared} {H : Hp} {Q : VK} {use : Option (Value → Sem Unit)} {Qf : Value → Shared → Prop} (h1 : Hot1 X.A p) (hp : p ∈ X.pn ++ pins) (hN : X.N.Nodup) (I : Inv X pins σ H s) (hi : PIP X tg iter wi) (ok : BlkOk X.N X.env.scope scope own)
    (hg : ∀ (s : Shared) (H : Hp) (C : Addr) (cl : List (Str × Addr)) (fp : List Addr), PG (blkP X p s H scope (compEnvC scope cl C X.env) fp) tg g) (ht : ∀ (s : Shared) (H : Hp) (C : Addr) (cl : List (Str × Addr)) (fp : List Addr), PTs (blkP X p s H scope (compEnvC scope cl C X.env) fp) ifs tt)
    (he : ∀ (s : Shared) (H : Hp) (C : Addr) (cl : List (Str × Addr)) (fp : List Addr), PE (blkP X p s H scope (compEnvC scope cl C X.env) fp) elt te) (hs : ∀ x, foldedSetIterable iter X.env x = pure x) (h : tLc wi g tt te (own.map (·.2)) σ H Q)
    (out : ∀ D C s' m H', Inv X pins σ H' s' → Q (.ref D) H' → s'.heap.Ns C m → FpOk X pins H' C → compPost (model X.prog X.w) X.A X.xe use Qf (.ref D) C (.ok .next) s') :
    wpAny (model X.prog X.w) X.A (comprehension (.ListComp elt [⟨tg, iter, ifs, 0⟩] scope pos) scope X.env pos' (newList []) false (eval iter X.env) use) Qf X.xe s := by
  have fr : ∀ y ∈ scope.names, y.2 = .free → ∃ c, X.env.cells.lookup y.1 = some c := fun y hy e => (ok.free y hy e).elim (fun k => I.ok.has _ (.inl k)) fun k => I.ok.has _ (.inr k)
  refine wpAny_comprehension_free (use := use) rfl hs (closure_ok fr) ok.kind (fun y hy e => by rw [ok.uniq y hy, e]) (thn (hi.go I h) fun x s1 hx => thn hx ?_)
  rintro _ s2 ⟨it, fp, tn, J, H2, rfl, T, st, I2, fo, q⟩
  obtain ⟨W, ⟨m0, w0⟩, turn⟩ := q s2.heap.objs.size (I2.hok.fresh (Nat.le_refl _))
  refine wpAny_newObj_type (newEnv_comp ?_) (Nat.zero_le _)
  have small : ∀ b ∈ fp, b < s2.heap.objs.size := fun b hb => by
    obtain ⟨o, e, _⟩ := T.obj _ _ st b hb
    exact Heap.lt_size e
  have I3 : Inv X pins σ (upd H2 s2.heap.objs.size (.lst [])) { s2 with heap := s2.heap.push { cls := .type "list", data := .seq ([] : List Value).toArray } } :=
    I2.laid (t' := s2.toks) (fun b o e => Heap.get?_push_of_some _ e) (Nat.le_refl _) ⟨Nat.zero_le _, [], 0, .nil, Heap.get?_push_size _ rfl⟩
  exact block_hot (Done := Q (.ref s2.heap.objs.size)) h1 hp hN ok I3 T (T.keep _ _ _ st fun b _ o e => Heap.get?_push_of_some _ e)
    (fun b hb => ⟨⟨by rw [upd_ne (Nat.ne_of_lt (small b hb))]; exact (fo b hb).1, (fo b hb).2⟩, by rw [Heap.size_push]; exact Nat.lt_succ_of_lt (small b hb)⟩) w0 hg ht he turn
    fun C s' m H' I' d hm f e => by subst e; exact out _ _ s' m H' I' d hm f
end
end G

namespace G
open PySem PySem.Spec PyProof.Rows L2 L2H
variable [tb : Tb]
section
variable {X : Cx} {W : WX} {e e2 : Expr} {ta : TA} {p pos tpos : Pos} {elts : List Expr} {kk : Nat} {ws : PE_ → PM → (List PV → PM → Prop) → XPost → Prop}
def iZipP (K : PySem.W.Frag) (ta : TA) : TI := fun σ H R => ta σ H fun vs H1 => ∃ a b xs ys, vs = [.ref a, .ref b] ∧ SqL K H1 a xs ∧ SqL K H1 b ys ∧ R (JZ K (.l a) (.l b)) H1
theorem pi_zipP (hg : Gl X "zip") (hm : X.mg "zip" = none) (ha : PA X [e, e2] ta)
    (hs : starEach [e, e2] X.env = (false, eval e X.env) :: starEach [e2] X.env) (hpl : (backTo pos (starEach [e2] X.env)).any (·.1) = false) :
    PIP X (.Tuple elts kk tpos) (.Call (.Name "zip" p) [e, e2] [] pos) (iZipP X.K ta) := by
  refine ⟨fun {pins s σ H R} I h => ?_⟩
  refine Call_ (ld_blt I hg hm PyProof.Rows.boot_zip (PyProof.Rows.callWith_type1 (thn (ha.run pos pins s σ H _ I h) fun us s1 ⟨vs, H1, I1, r1, q1⟩ => ?_) hs hpl))
  obtain ⟨a, b, xs, ys, ex, hk, hl, q3⟩ := q1
  subst ex
  obtain ⟨u1, u2, rfl, r, r'⟩ := vals2 r1
  obtain rfl : u1 = (SK.l a).val := r
  obtain rfl : u2 = (SK.l b).val := r'
  obtain ⟨C, B, hC⟩ := SK.begins (k := .l a) I1 hk
  obtain ⟨C2, B2, hC2⟩ := SK.begins (k := .l b) I1 hl
  refine zip_begins2 B B2 hC hC2 fun h' hz hTI hTO h1 h2 hsz hkp => wpAny_pyIter_zip hz ?_
  have I2 : Inv X pins σ H1 { s1 with heap := h' } := I1.kept (t' := s1.toks) hkp
  refine ⟨s1.heap.objs.size + 4, [s1.heap.objs.size + 4, s1.heap.objs.size + 2, s1.heap.objs.size + 3, s1.heap.objs.size, s1.heap.objs.size + 1], _, _, H1, rfl, turn_zipP a b (ap2 _), ⟨hz, hTI, ⟨_, _, hTO⟩, SK.It.of_obj (k := .l a) h1, SK.It.of_obj (k := .l b) h2⟩, I2, fun c hcm => ?_, q3⟩
  refine fresh_fp I1 ?_
  simp only [List.mem_cons, List.not_mem_nil, or_false] at hcm
  rcases hcm with z | z | z | z | z <;> (rw [z]; first | exact Nat.le_add_right _ _ | exact Nat.le_refl _)
theorem pi_k_zipL (hg : Gl X "zip") (hm : X.mg "zip" = none) (ha : PA X [e, e2] (TAr X.K W ws)) (hs : noStar e = true) (hs2 : noStar e2 = true) :
    PIP X (.Tuple elts kk tpos) (.Call (.Name "zip" p) [e, e2] [] pos) (TIk X.K W (fun ρ μ P Y => ws ρ μ (fun vs μ1 => vs.length = 2 ∧ P vs μ1) Y) .zipL) := by
  refine ⟨fun {pins s σ H R} I h => (pi_zipP hg hm ha (star_cons _ hs) (star_back _ _ (by simp [hs2]))).go I ?_⟩
  obtain ⟨ρ, μ, P, Y, hρ, m, h, cx, c⟩ := h
  refine ⟨ρ, μ, _, Y, hρ, m, h, fun vs μ1 us H1 r m1 e1 p1 => ?_, cx⟩
  obtain ⟨l1, p1⟩ := p1
  obtain ⟨items, e, c2⟩ := c vs μ1 H1 m1 e1 p1
  match vs, e, l1 with
  | [x, y], e, _ =>
    obtain ⟨w, u, rfl, r1, r2⟩ := ress2 r
    have e' : (match lstOf μ1 x, lstOf μ1 y with
      | some xs, some ys => some (xs.zipWith (fun a b => PV.tup [a, b]) ys)
      | _, _ => none) = some items := e
    cases q : lstOf μ1 x with
    | none => rw [q] at e'; cases e'
    | some xs =>
      cases q2 : lstOf μ1 y with
      | none => rw [q, q2] at e'; cases e'
      | some ys =>
        rw [q, q2] at e'
        cases e'
        obtain ⟨a, va, rfl, ha, ra, la⟩ := lst_res m1 r1 q
        obtain ⟨b, vb, rfl, hb, rb, lb⟩ := lst_res m1 r2 q2
        refine ⟨a, b, va, vb, rfl, SqL.of ha, SqL.of hb, c2 (by simp; omega) _ (GW.zip2 (k := .l a) (l := .l b) fun μ2 H2 m2 ⟨e2, i2⟩ => ?_)⟩
        have i3 : (match lstOf μ2 x, lstOf μ2 y with
          | some xs, some ys => some (xs.zipWith (fun a b => PV.tup [a, b]) ys)
          | _, _ => none) = some (xs.zipWith (fun a b => PV.tup [a, b]) ys) := i2
        cases z : lstOf μ2 x with
        | none => rw [z] at i3; cases i3
        | some xs2 =>
          cases z2 : lstOf μ2 y with
          | none => rw [z, z2] at i3; cases i3
          | some ys2 =>
            rw [z, z2] at i3
            obtain ⟨a', va', ea, ha', ra', _⟩ := lst_res m2 (r1.ext m1 e2) z
            obtain ⟨b', vb', eb, hb', rb', _⟩ := lst_res m2 (r2.ext m1 e2) z2
            cases ea
            cases eb
            exact ⟨xs2, ys2, va', vb', SqL.of ha', ra', SqL.of hb', rb', Option.some.inj i3⟩
end

section
variable {X : Cx} {W : WX} {p : Addr × Obj} {wps : PE_ → PM → (List PV → PM → Prop) → XPost → Prop} {k : IK} {pt pi pe : Expr} {pf : List Expr} {scope : Scope} {own : List (Str × Nat)} {pos : Pos} {tg : Tg} {wc : PE_ → PM → (Bool → PM → Prop) → Prop} {we : PE_ → PM → Post → XPost → Prop}
theorem c_compH (h1 : Hot1 X.A p) (hp : p ∈ X.pn) (hN : X.N.Nodup) (hi : PIP X pt pi (TIk X.K W wps k)) (ok : BlkOk X.N X.env.scope scope own) (hsub : ∀ i ∈ tgV tg, i ∈ own.map (·.2))
    (hg : ∀ (s : Shared) (H : Hp) (C : Addr) (cl : List (Str × Addr)) (fp : List Addr), PG (blkP X p s H scope (compEnvC scope cl C X.env) fp) pt (gA X.K tg))
    (ht : ∀ (s : Shared) (H : Hp) (C : Addr) (cl : List (Str × Addr)) (fp : List Addr), PTs (blkP X p s H scope (compEnvC scope cl C X.env) fp) pf (TBs X.K wc))
    (he : ∀ (s : Shared) (H : Hp) (C : Addr) (cl : List (Str × Addr)) (fp : List Addr), PE (blkP X p s H scope (compEnvC scope cl C X.env) fp) pe (T X.K W0 we)) (hs : ∀ x, foldedSetIterable pi X.env x = pure x) :
    PE X (.ListComp pe [⟨pt, pi, pf, 0⟩] scope pos) (T X.K W (fun ρ μ P Y => wps ρ μ (fun vs μ1 => ∃ items, itemsOf μ1 k vs = some items ∧
      compW (fun μ' => itemsOf μ' k vs = some items) (fun x μ' k' => asgT tg x (wipeP ρ (own.map (·.2))) μ' fun ρ2 μ2 =>
        wc ρ2 μ2 (fun b μ3 => if b = true then we ρ2 μ3 (fun y μ4 => mat y μ4 fun y' μ5 => k' (some y') μ5) (fun _ _ => False) else k' none μ3))
        (fun acc μ' => P (.tmp acc) μ') items [] μ1) Y)) := by
  refine ⟨fun pins s σ H Q I h => ?_⟩
  rw [eval_ListComp]
  refine comp_hot h1 (List.mem_append_left _ hp) hN I hi ok hg ht he hs (lc_red hsub h) fun D C s' m H' I' q hn f => ⟨m, hn, fun h'' sb => ?_⟩
  obtain ⟨f0, f1, f2, f3, f4, f5⟩ := f
  exact ⟨.ref D, H', I'.turned (t' := s'.toks) (fun b o hb e => (sb.2 b hb).trans e) f0 f1 f3 f4 f5, rfl, q⟩
end
end G

namespace G
open PySem PySem.Spec PyProof.Rows L2 L2H HotX
section
variable {prog : Program} {w : World} {A : Around} {E : Value → Shared → Prop} {s : Shared} {x1 : Addr}
/-- StopIteration, raised while x1 is handled -/
theorem stop_hot {α : Type} {Q : α → Shared → Prop} (hh : A.handled = some (.ref x1)) (ho : HotO s.heap x1)
    (k : ∀ h' e, (∀ b o, s.heap.get? b = some o → h'.get? b = some o) → (∃ o, h'.get? e = some o ∧ o.cls = .type "StopIteration") → E (.ref e) { s with heap := h' }) :
    wpAny (model prog w) A (newExc (.type "StopIteration") [] >>= fun e => (raiseNew e : Sem α)) Q E s := by
  obtain ⟨o1, vs1, h1, d1, c1⟩ := ho
  refine wpAny_bind ?_
  simp only [newExc, newTuple]
  refine wpAny_bind (wpAny_newObj_type ?_ (by size_fits))
  refine wpAny_bind (m := firstArgMember _ _) (wpAny_of_eq (a := Value.none) (by first | rfl | (simp only [firstArgMember]; rfl)) ?_)
  refine wpAny_newObj_type ?_ (by size_fits)
  refine raiseNew_hot ⟨hh, o1, vs1, Heap.get?_push_of_some _ (Heap.get?_push_of_some _ h1), d1, c1⟩ (Nat.ne_of_lt (Heap.lt_size (Heap.get?_push_of_some _ h1))) (Heap.get?_push_size _ rfl) rfl (by first | (simp; done) | (simp; omega) | (simp only [Array.size_append]; simp; omega)) ?_
  refine k _ _ (fun b o e => ?_) ⟨_, Heap.get?_update_self _ (Heap.get?_push_size _ rfl) rfl, rfl⟩
  rw [Heap.get?_update_other _ _ (Nat.ne_of_gt (Heap.lt_size (Heap.get?_push_of_some _ e)))]
  exact Heap.get?_push_of_some _ (Heap.get?_push_of_some _ e)
/-- behind a tuple's last item -/
theorem tup_end_hot {it t : Addr} {i : Nat} {items : Array Value} {Q : Option Value → Shared → Prop} (hh : A.handled = some (.ref x1)) (ho1 : HotO s.heap x1) (hne : x1 ≠ it)
    (hit : IsTupIter s.heap it t i) (ht : IsTup s.heap t items) (hx : items[i]? = none) (hQ : ∀ h', Heap.ExtBut it s.heap h' → Q none { s with heap := h' }) : wpAny (model prog w) A (pyNext (.ref it)) Q E s := by
  obtain ⟨o, ho, hc, hd⟩ := id hit
  obtain ⟨ol, hol, _, nl, hdl⟩ := ht
  unfold pyNext
  refine wpAny_bind (wpAny_attempt (wpAny_callSpecial?_slot (name := Str.ofString "__next__") hit.typeIs slot_tupleiter_next
    (wpAny_call_entry slot_tupleiter_next hit.typeIs entry_tupleiter_next ?_ (args_tupleiter_next _))))
  show wpAny _ _ (field (.ref it) 0 >>= _) _ _ s
  refine wpAny_bind (wpAny_field ho hd (x := .ref t) rfl ?_)
  show wpAny _ _ (if (Value.ref t == Value.none) = true then _ else _) _ _ s
  rw [if_neg (show ¬ ((Value.ref t == Value.none) = true) from Bool.false_ne_true)]
  show wpAny _ _ (field (.ref it) 1 >>= _) _ _ s
  refine wpAny_bind (wpAny_field ho hd (x := .int i 0) rfl ?_)
  show wpAny _ _ (seqItems? (.ref t) >>= _) _ _ s
  refine wpAny_bind (wpAny_seqItems hol hdl ?_)
  simp only [Int.toNat_natCast, hx]
  refine wpAny_bind (wpAny_rule (wpAny_bind (wpAny_setField ho hd (by simp) ?_)))
  refine stop_hot (x1 := x1) hh (ho1.keep fun o e => by rw [Heap.get?_update_other _ _ hne.symm]; exact e) fun h' e kp he => ?_
  obtain ⟨oe, g1, g2⟩ := he
  refine wpAny_bind (wpAny_isInstance (T := "StopIteration") (b := true) ⟨oe, g1, g2⟩ isSubtype_stop ?_)
  refine wpAny_pure (hQ _ fun b o hb e => kp b o ?_)
  rw [Heap.get?_update_other _ _ (Ne.symm hb)]
  exact e
end
end G

namespace G
open PySem PySem.Spec PyProof.Rows L2 L2H HotX
section
variable {prog : Program} {w : World} {A : Around} {E : Value → Shared → Prop} {s : Shared} {x1 : Addr}
theorem asg_tup_hot {env : Env} {elts : List Expr} {kk : Nat} {pos : Pos} {t : Addr} {items : Array Value} {Q : Unit → Shared → Prop} (hh : A.handled = some (.ref x1)) (ho : HotO s.heap x1) (ht : IsTup s.heap t items)
    (hn : (assignEach elts env).length = items.size) (hst : (assignEach elts env).findIdx? (·.1) = none)
    (h : ∀ h', (∀ b o, s.heap.get? b = some o → h'.get? b = some o) → wpAny (model prog w) A (assignInOrder ((assignEach elts env).map (·.2)) items.toList) Q E { s with heap := h' }) :
    wpAny (model prog w) A (assign (.Tuple elts kk pos) env (.ref t)) Q E s := by
  have lt : t ≠ s.heap.objs.size := by obtain ⟨o, e, _⟩ := ht; exact Nat.ne_of_lt (Heap.lt_size e)
  have lx : x1 ≠ s.heap.objs.size := by obtain ⟨o, _, e, _⟩ := ho; exact Nat.ne_of_lt (Heap.lt_size e)
  rw [assign_Tuple]
  refine wpAny_bind (wpAny_standAt ?_)
  unfold unpack
  rw [hn, hst]
  refine wpAny_bind (wpAny_holding ?_)
  unfold unpackItems notIterableAtAll
  refine wpAny_bind (wpAny_bind (wpAny_specialOf ht.typeIs slot_tuple_iter.lookup (wpAny_pure ?_)))
  simp only [Bool.false_eq_true, if_false]
  refine wpAny_bind (wpAny_holding (iter_tuple ht ?_))
  refine wpAny_bind (wpAny_holding (draw_tuple lt items.size 0 _ _ ⟨_, Heap.get?_push_size _ rfl, rfl, rfl⟩ (ht.push _) (by omega) fun h1 it1 sb1 => ?_))
  rw [show List.take items.size (List.drop 0 items.toList) = items.toList by rw [List.drop_zero]; exact List.take_of_length_le (by simp), if_neg (by simp)]
  have keep1 : ∀ b o, s.heap.get? b = some o → h1.get? b = some o := fun b o e => sb1.extBut b o (Nat.ne_of_lt (Heap.lt_size e)) (Heap.get?_push_of_some _ e)
  refine wpAny_bind (wpAny_holding (tup_end_hot hh (ho.keep fun o e => keep1 _ _ e) lx it1 ((ht.push _).extBut sb1.extBut lt) (by simp) fun h2 k2 => ?_))
  simp only [Option.isSome_none, Bool.false_eq_true, if_false]
  exact wpAny_pure (h h2 fun b o e => k2 b o (Nat.ne_of_lt (Heap.lt_size e)) (keep1 b o e))
/-- behind a list's last item -/
theorem lst_end_hot {it l : Addr} {i : Nat} {items : Array Value} {Q : Option Value → Shared → Prop} (hh : A.handled = some (.ref x1)) (ho1 : HotO s.heap x1) (hne : x1 ≠ it)
    (hit : s.heap.IsListIter it l i) (hl : s.heap.IsList l items) (hx : items[i]? = none) (hQ : ∀ h', Heap.ExtBut it s.heap h' → Q none { s with heap := h' }) : wpAny (model prog w) A (pyNext (.ref it)) Q E s := by
  obtain ⟨o, ho, hc, hd⟩ := id hit
  obtain ⟨ol, hol, _, nl, hdl⟩ := hl
  unfold pyNext
  refine wpAny_bind (wpAny_attempt (wpAny_callSpecial?_slot (name := Str.ofString "__next__") hit.typeIs slot_listiter_next
    (wpAny_call_entry slot_listiter_next hit.typeIs entry_listiter_next ?_ (args_listiter_next _))))
  show wpAny _ _ (field (.ref it) 0 >>= _) _ _ s
  refine wpAny_bind (wpAny_field ho hd (x := .ref l) rfl ?_)
  show wpAny _ _ (if (Value.ref l == Value.none) = true then _ else _) _ _ s
  rw [if_neg (show ¬ ((Value.ref l == Value.none) = true) from Bool.false_ne_true)]
  show wpAny _ _ (field (.ref it) 1 >>= _) _ _ s
  refine wpAny_bind (wpAny_field ho hd (x := .int i 0) rfl ?_)
  show wpAny _ _ (seqItems? (.ref l) >>= _) _ _ s
  refine wpAny_bind (wpAny_seqItems hol hdl ?_)
  simp only [Int.toNat_natCast, hx]
  refine wpAny_bind (wpAny_rule (wpAny_bind (wpAny_setField ho hd (by simp) ?_)))
  refine stop_hot (x1 := x1) hh (ho1.keep fun o e => by rw [Heap.get?_update_other _ _ hne.symm]; exact e) fun h' e kp he => ?_
  obtain ⟨oe, g1, g2⟩ := he
  refine wpAny_bind (wpAny_isInstance (T := "StopIteration") (b := true) ⟨oe, g1, g2⟩ isSubtype_stop ?_)
  refine wpAny_pure (hQ _ fun b o hb e => kp b o ?_)
  rw [Heap.get?_update_other _ _ (Ne.symm hb)]
  exact e
theorem asg_lst_hot {env : Env} {elts : List Expr} {kk : Nat} {pos : Pos} {l : Addr} {items : Array Value} {Q : Unit → Shared → Prop} (hh : A.handled = some (.ref x1)) (ho : HotO s.heap x1) (hl : s.heap.IsList l items)
    (hn : (assignEach elts env).length = items.size) (hst : (assignEach elts env).findIdx? (·.1) = none)
    (h : ∀ h', (∀ b o, s.heap.get? b = some o → h'.get? b = some o) → wpAny (model prog w) A (assignInOrder ((assignEach elts env).map (·.2)) items.toList) Q E { s with heap := h' }) :
    wpAny (model prog w) A (assign (.Tuple elts kk pos) env (.ref l)) Q E s := by
  have lt : l ≠ s.heap.objs.size := by obtain ⟨o, e, _⟩ := hl; exact Nat.ne_of_lt (Heap.lt_size e)
  have lx : x1 ≠ s.heap.objs.size := by obtain ⟨o, _, e, _⟩ := ho; exact Nat.ne_of_lt (Heap.lt_size e)
  rw [assign_Tuple]
  refine wpAny_bind (wpAny_standAt ?_)
  unfold unpack
  rw [hn, hst]
  refine wpAny_bind (wpAny_holding ?_)
  unfold unpackItems notIterableAtAll
  refine wpAny_bind (wpAny_bind (wpAny_specialOf hl.typeIs slot_list_iter.lookup (wpAny_pure ?_)))
  simp only [Bool.false_eq_true, if_false]
  refine wpAny_bind (wpAny_holding (wpAny_pyIter_list hl ?_))
  refine wpAny_bind (wpAny_holding (PySem.W.kun_draw lt items.size 0 _ _ ⟨_, Heap.get?_push_size _ rfl, rfl, rfl⟩ (hl.push _) (by omega) fun h1 it1 sb1 => ?_))
  rw [show List.take items.size (List.drop 0 items.toList) = items.toList by rw [List.drop_zero]; exact List.take_of_length_le (by simp), if_neg (by simp)]
  have keep1 : ∀ b o, s.heap.get? b = some o → h1.get? b = some o := fun b o e => sb1.extBut b o (Nat.ne_of_lt (Heap.lt_size e)) (Heap.get?_push_of_some _ e)
  refine wpAny_bind (wpAny_holding (lst_end_hot hh (ho.keep fun o e => keep1 _ _ e) lx it1 ((hl.push _).extBut sb1.extBut lt) (by simp) fun h2 k2 => ?_))
  simp only [Option.isSome_none, Bool.false_eq_true, if_false]
  exact wpAny_pure (h h2 fun b o e => k2 b o (Nat.ne_of_lt (Heap.lt_size e)) (keep1 b o e))
end
section
variable {X : Cx} {pos : Pos}
/-- (a, b, ..) = a list of that length -/
theorem pg_unlH {es : List Expr} {k : Nat} {t : TGs} {n : Nat} (hc : HotC X) (h : PGs X es t) (hn : (assignEach es X.env).length = n) (hst : (assignEach es X.env).findIdx? (·.1) = none) : PG X (.Tuple es k pos) (gUnl X.K n t) := by
  refine ⟨fun pins s σ H v u Q I r hw => ?_⟩
  obtain ⟨a, xs, rfl, hq, hl, hw⟩ := hw
  cases r
  obtain ⟨its, rv, pl, hz⟩ := I.list hq
  obtain ⟨p, ⟨hh, vs, d, c⟩, hp⟩ := hc
  have pk := I.pin p (List.mem_append_left _ hp)
  refine asg_lst_hot hh ⟨p.2, vs, pk.1, d, c⟩ pl.isList (by simp [hn, ← hl, rv.length]) hst fun h' kp => ?_
  exact h.run pins _ σ H xs _ Q (I.kept (t' := s.toks) kp) (by simpa using rv) hw
/-- (a, b, ..) = a tuple of that length -/
theorem pg_tupH {es : List Expr} {k : Nat} {t : TGs} {n : Nat} (hc : HotC X) (h : PGs X es t) (hn : (assignEach es X.env).length = n) (hst : (assignEach es X.env).findIdx? (·.1) = none) : PG X (.Tuple es k pos) (gTup X.K n t) := by
  refine ⟨fun pins s σ H v u Q I r hw => ?_⟩
  obtain ⟨a, xs, rfl, hq, hl, hw⟩ := hw
  cases r
  obtain ⟨its, rv, ht, hz⟩ := I.tuple hq
  obtain ⟨p, ⟨hh, vs, d, c⟩, hp⟩ := hc
  have pk := I.pin p (List.mem_append_left _ hp)
  refine asg_tup_hot hh ⟨p.2, vs, pk.1, d, c⟩ ht (by simp [hn, ← hl, rv.length]) hst fun h' kp => ?_
  exact h.run pins _ σ H xs _ Q (I.kept (t' := s.toks) kp) (by simpa using rv) hw
theorem unp_hot (hc : HotC X) : Unp X := ⟨fun h a b => pg_tupH hc h a b, fun h a b => pg_unlH hc h a b⟩
end
end G

namespace G
open PySem PySem.Spec PyProof.Rows L2 L2H
variable [tb : Tb]
section
variable {X : Cx} {pins : List (Addr × Obj)} {σ : St} {H : Hp} {s : Shared}
/-- the made list is stored while the block's dict (at C) still lies there -/
theorem store_made {i : Nat} {y : Str} {py : Pos} {L C : Addr} {m : Str → Option Value} {D : Ends} (hN : X.N.Nodup) (hy : X.N[i]? = some y) (hyl : X.env.scope.names.lookup y = some .local)
    (I : Inv X pins σ H s) (hn : s.heap.Ns C m) (f : FpOk X pins H C) (q : D.nx (σ.set i (some (.ref L))) H) :
    wpAny (model X.prog X.w) X.A (assign (.Name y py) X.env (.ref L)) (fun _ s2 => ∃ m, s2.heap.Ns C m ∧ ∀ h', Heap.SameBut C s2.heap h' → SP X pins D .next { s2 with heap := h' }) X.xe s := by
  refine wpAny_assign_Name (store_ok2 (v := V.ref L) I hN hy (.inl hyl) rfl (fun s2 I2 ⟨a, sb, ha⟩ => ?_) (.inr hyl))
  obtain ⟨n0, n1, n2, n3, n4, n5⟩ := f
  have apart : C ≠ a := by
    intro e
    subst e
    rcases ha with z | z
    · exact n1 z
    · exact n4 y C z rfl
  exact ⟨m, hn.sameBut sb apart, fun h3 k3 => ⟨_, H, I2.turned (t' := s2.toks) (fun b o hb e => (k3.2 b hb).trans e) n0 n1 n3 n4 n5, q⟩⟩
end
section
variable {X : Cx} {W : WX} {p : Addr × Obj} {wps : PE_ → PM → (List PV → PM → Prop) → XPost → Prop} {k : IK} {pt pi pe : Expr} {pf : List Expr} {scope : Scope} {own : List (Str × Nat)} {pos : Pos} {tg : Tg} {wc : PE_ → PM → (Bool → PM → Prop) → Prop} {we : PE_ → PM → Post → XPost → Prop}
theorem c_setLcH {i : Nat} {y : Str} {py spos : Pos} (hy : X.N[i]? = some y) (hyl : X.env.scope.names.lookup y = some .local) (hsw : swapsWith (.ListComp pe [⟨pt, pi, pf, 0⟩] scope pos) (some (.Name y py)) spos.line X.env = pure true)
    (h1 : Hot1 X.A p) (hp : p ∈ X.pn) (hN : X.N.Nodup) (hi : PIP X pt pi (TIk X.K W wps k)) (ok : BlkOk X.N X.env.scope scope own) (hsub : ∀ i ∈ tgV tg, i ∈ own.map (·.2))
    (hg : ∀ (s : Shared) (H : Hp) (C : Addr) (cl : List (Str × Addr)) (fp : List Addr), PG (blkP X p s H scope (compEnvC scope cl C X.env) fp) pt (gA X.K tg))
    (ht : ∀ (s : Shared) (H : Hp) (C : Addr) (cl : List (Str × Addr)) (fp : List Addr), PTs (blkP X p s H scope (compEnvC scope cl C X.env) fp) pf (TBs X.K wc))
    (he : ∀ (s : Shared) (H : Hp) (C : Addr) (cl : List (Str × Addr)) (fp : List Addr), PE (blkP X p s H scope (compEnvC scope cl C X.env) fp) pe (T X.K W0 we)) (hs : ∀ x, foldedSetIterable pi X.env x = pure x) :
    PS X (.Assign [.Name y py] (.ListComp pe [⟨pt, pi, pf, 0⟩] scope pos) spos) (tAsg (T X.K W (fun ρ μ P Y => wps ρ μ (fun vs μ1 => ∃ items, itemsOf μ1 k vs = some items ∧
      compW (fun μ' => itemsOf μ' k vs = some items) (fun x μ' k' => asgT tg x (wipeP ρ (own.map (·.2))) μ' fun ρ2 μ2 =>
        wc ρ2 μ2 (fun b μ3 => if b = true then we ρ2 μ3 (fun y μ4 => mat y μ4 fun y' μ5 => k' (some y') μ5) (fun _ _ => False) else k' none μ3))
        (fun acc μ' => P (.tmp acc) μ') items [] μ1) Y)) (gName i)) := by
  refine ⟨fun pins s σ H D I h => ?_⟩
  have h' : tLc (TIk X.K W wps k) (gA X.K tg) (TBs X.K wc) (T X.K W0 we) (own.map (·.2)) σ H (fun x H1 => gName i x σ H1 D.nx) := lc_red hsub h
  have run := comp_hot (pos := pos) (pos' := firstIterPos [⟨pt, pi, pf, 0⟩] pos) (use := some (assign (.Name y py) X.env)) (Qf := fun _ s' => SP X pins D .next s') h1 (List.mem_append_left _ hp) hN I hi ok hg ht he hs h'
    fun L C s' m H' I' q hn f => store_made hN hy hyl I' hn f q
  rw [exec_Assign_Name_used _ _ _ _ hsw]
  refine wpAny_bind (wpAny_standAt (wpAny_bind ?_))
  exact wpAny_bind (thn run fun _ s' hq => wpAny_pure (wpAny_pure hq))
end
end G

namespace G
open PySem PySem.Spec PyProof.Rows L2
variable [tb : Tb]

structure EOk (K : PySem.W.Frag) (W : WX) (μ : PM) (H : Hp) (DP : PEnds) (D : Ends) : Prop where
  nx : ∀ ρ' μ' σ' H', RepE K H' ρ' σ' → RepH K H' μ' → Ext μ H μ' H' → DP.nx ρ' μ' → D.nx σ' H'
  rt : ∀ v μ' w H', RepV K H' v w → RepH K H' μ' → Ext μ H μ' H' → DP.rt v μ' → D.rt w H'
  bk : ∀ ρ' μ' σ' H', RepE K H' ρ' σ' → RepH K H' μ' → Ext μ H μ' H' → DP.bk ρ' μ' → D.bk σ' H'
  ct : ∀ ρ' μ' σ' H', RepE K H' ρ' σ' → RepH K H' μ' → Ext μ H μ' H' → DP.ct ρ' μ' → D.ct σ' H'
  rs : ∀ x ρ' μ' cls d σ' H', RepX K H' x cls d → RepE K H' ρ' σ' → RepH K H' μ' → Ext μ H μ' H' → DP.rs x ρ' μ' → W cls d σ' H'
def TSg (K : PySem.W.Frag) (W : WX) (wp : PEnds → PE_ → PM → Prop) : TS := fun D σ H => ∃ ρ μ DP, RepE K H ρ σ ∧ RepH K H μ ∧ wp DP ρ μ ∧ EOk K W μ H DP D
section
variable {K : PySem.W.Frag} {W : WX} {σ : St} {μ μ1 : PM} {H H1 : Hp} {DP : PEnds} {D : Ends} {ρ : PE_}
theorem EOk.pre (c : EOk K W μ H DP D) (e : Ext μ H μ1 H1) : EOk K W μ1 H1 DP D :=
  ⟨fun a b c' d h1 h2 h3 h4 => c.nx a b c' d h1 h2 (e.trans h3) h4, fun a b c' d h1 h2 h3 h4 => c.rt a b c' d h1 h2 (e.trans h3) h4, fun a b c' d h1 h2 h3 h4 => c.bk a b c' d h1 h2 (e.trans h3) h4,
    fun a b c' d h1 h2 h3 h4 => c.ct a b c' d h1 h2 (e.trans h3) h4, fun a b c' d x y z h0 h1 h2 h3 h4 => c.rs a b c' d x y z h0 h1 h2 (e.trans h3) h4⟩
theorem EOk.x (c : EOk K W μ H DP D) (hρ : RepE K H ρ σ) (m : RepH K H μ) : XCont K W σ μ H (fun x μ' => DP.rs x ρ μ') :=
  fun x μ' cls d H' rx m' e p => c.rs x ρ μ' cls d σ H' rx (hρ.mono (e.tup m)) m' e p
end

section
variable {X : Cx} {W : WX} {p q r : Expr} {pos : Pos} {wa wb wc : PE_ → PM → Post → XPost → Prop} {sa sb : PEnds → PE_ → PM → Prop} {ss : List Stmt}
theorem s_nil : PSs X [] (TSg X.K W fun D ρ μ => D.nx ρ μ) := pss_nil.imp fun D σ H h => by
  obtain ⟨ρ, μ, DP, hρ, m, h, c⟩ := h
  exact c.nx ρ μ σ H hρ m Ext.refl h
theorem s_cons {s : Stmt} (h1 : PS X s (TSg X.K W sa)) (h2 : PSs X ss (TSg X.K W sb)) : PSs X (s :: ss) (TSg X.K W fun D ρ μ => sa { D with nx := fun ρ' μ' => sb D ρ' μ' } ρ μ) :=
  (pss_cons h1 h2).imp fun D σ H h => by
    obtain ⟨ρ, μ, DP, hρ, m, h, c⟩ := h
    exact ⟨ρ, μ, _, hρ, m, h, ⟨fun ρ' μ' σ' H' hρ' m' e p => ⟨ρ', μ', DP, hρ', m', p, c.pre e⟩, c.rt, c.bk, c.ct, c.rs⟩⟩
/-- evaluated, then placed -/
theorem mat_go {K : PySem.W.Frag} {DP : PEnds} {ρ : PE_} {σ : St} {μ : PM} {H : Hp} {D : Ends} {Q : VK} {R : PV → PM → Prop} (hρ : RepE K H ρ σ) (m : RepH K H μ) (c : EOk K W μ H DP D)
    (h : wa ρ μ (fun v μ1 => mat v μ1 R) (fun x μ' => DP.rs x ρ μ'))
    (k : ∀ v μ' w H', RepV K H' v w → RepH K H' μ' → Ext μ H μ' H' → RepE K H' ρ σ → EOk K W μ' H' DP D → R v μ' → Q w H') : T K W wa σ H Q :=
  T.go hρ m h (c.x hρ m) fun v μ1 w H1 r m1 e1 hρ1 cx1 p1 => mat_rep m1 r e1.dom p1 fun v' μ2 r2 m2 e2 p2 => k v' μ2 w H1 r2 m2 (e2 μ e1) hρ1 (c.pre (e2 μ e1)) p2
theorem s_set {i : Nat} {x : Str} {px : Pos} (hN : X.N.Nodup) (hi : X.N[i]? = some x) (hx : Loc X.env.scope x) (hf : X.fn x = true ∨ X.env.scope.names.lookup x = some .local) (he : PE X p (T X.K W wa)) (hs : swapsWith p (some (.Name x px)) pos.line X.env = pure false) :
    PS X (.Assign [.Name x px] p pos) (TSg X.K W fun D ρ μ => wa ρ μ (fun v μ1 => mat v μ1 fun v' μ2 => D.nx (ρ.set i (some v')) μ2) (fun x μ' => D.rs x ρ μ')) :=
  (ps_set hN hi hx he hs hf).imp fun D σ H h => by
    obtain ⟨ρ, μ, DP, hρ, m, h, c⟩ := h
    exact mat_go hρ m c h fun v μ' w H' r m' e hρ' c' p => c'.nx _ _ _ _ (hρ'.set i r) m' Ext.refl p

theorem s_setL {i : Nat} {st : Stmt} (h0 : PS X st (tAsg (T X.K W wa) (gName i))) : PS X st (TSg X.K W fun D ρ μ => wa ρ μ (fun v μ1 => mat v μ1 fun v' μ2 => D.nx (ρ.set i (some v')) μ2) (fun x μ' => D.rs x ρ μ')) :=
  h0.imp fun D σ H h => by
    obtain ⟨ρ, μ, DP, hρ, m, h, c⟩ := h
    exact mat_go hρ m c h fun v μ' w H' r m' e hρ' c' p => c'.nx _ _ _ _ (hρ'.set i r) m' Ext.refl p
theorem s_setT {ts : List Tg} (he : PE X p (T X.K W wa)) (hg : PG X q (gT X.K ts)) (hs : swapsWithSole [q] p pos.line X.env = pure false) (hw : swappedStores [q] p X.env = pure none) (h1 : (assignEach [q] X.env).map (·.2) = [assign q X.env]) :
    PS X (.Assign [q] p pos) (TSg X.K W fun D ρ μ => wa ρ μ (fun v μ1 => asgT (.tp ts) v ρ μ1 D.nx) (fun x μ' => D.rs x ρ μ')) :=
  (ps_asg he hg hs hw h1).imp fun D σ H h => by
    obtain ⟨ρ, μ, DP, hρ, m, h, c⟩ := h
    refine T.go hρ m h (c.x hρ m) fun v μ1 w H1 r m1 e1 hρ1 cx1 p1 => ?_
    exact ⟨H, ρ, μ1, v, _, hρ1, m1, r, p1, fun ρ' σ' hρ' _ k => c.nx _ _ _ _ hρ' m1 e1 k⟩
theorem s_par2 {i j : Nat} {x y : Str} {a b : Expr} {px py pt : Pos} {kt k2 : Nat} {pt2 : Pos} {ws : PE_ → PM → (List PV → PM → Prop) → XPost → Prop} (hc : X.calm = true) (hN : X.N.Nodup) (hi : X.N[i]? = some x) (hj : X.N[j]? = some y) (hij : i ≠ j)
    (hx : X.env.scope.names.lookup x = some .local) (hy : X.env.scope.names.lookup y = some .local) (ha : PA X [a, b] (TAm X.K W ws))
    (hw : swappedStores [.Tuple [.Name x px, .Name y py] kt pt] (.Tuple [a, b] k2 pt2) X.env = pure (some [x, y])) :
    PS X (.Assign [.Tuple [.Name x px, .Name y py] kt pt] (.Tuple [a, b] k2 pt2) pos) (TSg X.K W fun D ρ μ => ws ρ μ (fun vs μ1 => [i, j].length = vs.length ∧ D.nx (([i, j].zip vs).foldl (fun r (p : Nat × PV) => r.set p.1 (some p.2)) ρ) μ1) (fun x μ' => D.rs x ρ μ')) :=
  (ps_par hc hN hi hj hij hx hy ha hw).imp fun D σ H h => by
    obtain ⟨ρ, μ, DP, hρ, m, h, c⟩ := h
    refine ⟨ρ, μ, _, _, hρ, m, h, fun vs μ1 us H1 r m1 e1 p1 => ?_, c.x hρ m⟩
    obtain ⟨l, p1⟩ := p1
    match vs, l with
    | [v, w], _ =>
      obtain ⟨u1, r1, rfl, h1, h2⟩ := r
      obtain ⟨u2, r2, rfl, h3, h4⟩ := h2
      cases (show r2 = [] from h4)
      exact ⟨u1, u2, rfl, c.nx _ _ _ _ (((hρ.mono (e1.tup m)).set i h1).set j h3) m1 e1 p1⟩
theorem s_par3 {i j l : Nat} {x y z : Str} {a b d : Expr} {px py pz pt : Pos} {kt k2 : Nat} {pt2 : Pos} {ws : PE_ → PM → (List PV → PM → Prop) → XPost → Prop} (hc : X.calm = true) (hN : X.N.Nodup) (hi : X.N[i]? = some x) (hj : X.N[j]? = some y) (hl : X.N[l]? = some z) (hij : i ≠ j) (hil : i ≠ l) (hjl : j ≠ l)
    (hx : X.env.scope.names.lookup x = some .local) (hy : X.env.scope.names.lookup y = some .local) (hz : X.env.scope.names.lookup z = some .local) (ha : PA X [a, b, d] (TAm X.K W ws))
    (hw : swappedStores [.Tuple [.Name x px, .Name y py, .Name z pz] kt pt] (.Tuple [a, b, d] k2 pt2) X.env = pure (some [x, y, z])) :
    PS X (.Assign [.Tuple [.Name x px, .Name y py, .Name z pz] kt pt] (.Tuple [a, b, d] k2 pt2) pos) (TSg X.K W fun D ρ μ => ws ρ μ (fun vs μ1 => [i, j, l].length = vs.length ∧ D.nx (([i, j, l].zip vs).foldl (fun r (p : Nat × PV) => r.set p.1 (some p.2)) ρ) μ1) (fun x μ' => D.rs x ρ μ')) :=
  (ps_par3 hc hN hi hj hl hij hil hjl hx hy hz ha hw).imp fun D σ H h => by
    obtain ⟨ρ, μ, DP, hρ, m, h, c⟩ := h
    refine ⟨ρ, μ, _, _, hρ, m, h, fun vs μ1 us H1 r m1 e1 p1 => ?_, c.x hρ m⟩
    obtain ⟨l', p1⟩ := p1
    match vs, l' with
    | [v, w, v3], _ =>
      obtain ⟨u1, r1, rfl, h1, h2⟩ := r
      obtain ⟨u2, r2, rfl, h3, h4⟩ := h2
      obtain ⟨u3, r3, rfl, h5, h6⟩ := h4
      cases (show r3 = [] from h6)
      exact ⟨u1, u2, u3, rfl, c.nx _ _ _ _ ((((hρ.mono (e1.tup m)).set i h1).set j h3).set l h5) m1 e1 p1⟩
theorem s_sub {o i : Expr} {sp : Pos} (he : PE X p (T X.K W wa)) (ho : PE X o (T X.K W wb)) (hi : PE X i (T X.K W wc)) (hs : swapsWithSole [.Subscript o i sp] p pos.line X.env = pure false) (hw : swappedStores [.Subscript o i sp] p X.env = pure none) (hpl : plainIxE i = true) :
    PS X (.Assign [.Subscript o i sp] p pos) (TSg X.K W fun D ρ μ => wa ρ μ (fun v μ1 => mat v μ1 fun v' μ2 => wb ρ μ2 (fun x μ3 => wc ρ μ3 (fun y μ4 => ∃ a j xs k, x = .ref a ∧ y = .int j ∧ μ4 a = some (.lst xs) ∧ ixN xs.length j = some k ∧
      D.nx ρ (up μ4 a (.lst (xs.set k v')))) (fun x μ' => D.rs x ρ μ')) (fun x μ' => D.rs x ρ μ')) (fun x μ' => D.rs x ρ μ')) :=
  (ps_asg he (pg_sub ho hi set_list (by intro v; cases i <;> first | rfl | cases hpl)) hs hw rfl).imp fun D σ H h => by
    obtain ⟨ρ, μ, DP, hρ, m, h, c⟩ := h
    refine mat_go hρ m c h fun v μ1 w H1 r m1 e1 hρ1 c1 p1 => ?_
    refine T.go hρ1 m1 p1 (c1.x hρ1 m1) fun v2 μ2 w2 H2 r2 m2 e2 hρ2 cx2 p2 => ?_
    refine T.go hρ2 m2 p2 cx2 fun v3 μ3 w3 H3 r3 m3 e3 hρ3 cx3 p3 => ?_
    obtain ⟨a, j, xs, k, rfl, rfl, hm, hk, p3⟩ := p3
    obtain ⟨hh, f1, vs, rfl, z, rr⟩ := m3 a _ hm
    refine ⟨a, vs, j, k, r2.ext m2 e3, r3, f1, by rw [← rr.length]; exact hk, ?_⟩
    have t := RepH.tupW (h := .lst (vs.set k w)) m3 hm
    have m4 : RepH X.K (upd H3 a (.lst (vs.set k w))) (up μ3 a (.lst (xs.set k v))) := m3.write hm ⟨vs.set k w, rfl, by rw [List.length_set]; exact z, (rr.set ((r.mono (e2.tup m1)).mono (e3.tup m2)) k).mono t⟩
    exact (c1.pre (e2.trans e3)).nx _ _ _ _ (hρ3.mono t) m4 (Ext.write hm) p3
theorem putP_rep {K : PySem.W.Frag} {H : Hp} {f : Str} {v : PV} {w : V} (r : RepV K H v w) : ∀ {fs : List (Str × PV)} {gs : List (Str × V)}, RepK K H fs gs → RepK K H (putP f v fs) (putF f w gs)
  | [], [], _ => ⟨rfl, RepVs.cons r RepVs.nil⟩
  | [], _ :: _, ⟨e, _⟩ => by simp at e
  | _ :: _, [], ⟨e, _⟩ => by simp at e
  | (g, x) :: fs, (g', y) :: gs, ⟨e, h⟩ => by
    simp only [List.map_cons, List.cons.injEq] at e
    obtain ⟨rfl, e⟩ := e
    obtain ⟨v0, r0, h0, h1, h2⟩ := h
    simp only [List.map_cons, List.cons.injEq] at h0
    obtain ⟨rfl, rfl⟩ := h0
    by_cases q : g' = f
    · subst q
      simp only [putP, putF, if_true]
      exact ⟨by simp [e], RepVs.cons r h2⟩
    · simp only [putP, putF, if_neg q]
      obtain ⟨a1, a2⟩ := putP_rep r (fs := fs) (gs := gs) ⟨e, h2⟩
      exact ⟨by simp [a1], RepVs.cons h1 a2⟩
theorem putP_len {f : Str} {v : PV} : ∀ fs : List (Str × PV), (putP f v fs).length ≤ fs.length + 1
  | [] => Nat.le_refl _
  | p :: r => by
    unfold putP
    split
    · simp
    · simp; exact putP_len r
theorem s_att {o : Expr} {n f : Str} {ap : Pos} (ho : PE X o (T X.K W wb)) (he : PE X p (T X.K W wa)) (hs : swapsWith p (some (.Attribute o f ap)) pos.line X.env = pure false) (hc : Cls X.K (He.ga X.K n)) (hn : NoAttr X.K (He.ga X.K n) f) :
    PS X (.Assign [.Attribute o f ap] p pos) (TSg X.K W fun D ρ μ => wa ρ μ (fun v μ1 => mat v μ1 fun v' μ2 => wb ρ μ2 (fun x μ3 => ∃ a fs, x = .ref a ∧ μ3 a = some (.ins n fs) ∧ fs.length < 1000 ∧
      D.nx ρ (up μ3 a (.ins n (putP f v' fs)))) (fun x μ' => D.rs x ρ μ')) (fun x μ' => D.rs x ρ μ')) :=
  (ps_fld ho he hs).imp fun D σ H h => by
    obtain ⟨ρ, μ, DP, hρ, m, h, c⟩ := h
    refine mat_go hρ m c h fun v μ1 w H1 r m1 e1 hρ1 c1 p1 => ?_
    refine T.go hρ1 m1 p1 (c1.x hρ1 m1) fun v2 μ2 w2 H2 r2 m2 e2 hρ2 cx2 p2 => ?_
    obtain ⟨a, fs, rfl, hm, hl, p2⟩ := p2
    obtain ⟨hh, f1, dx, gs, rfl, z, rk⟩ := m2 a _ hm
    have hlen : gs.length = fs.length := by have := congrArg List.length rk.1; simpa using this
    refine ⟨a, _, dx, gs, r2, f1, hc, hn, by rw [hlen]; exact hl, ?_⟩
    have t := RepH.tupW (h := .ins (He.ga X.K n) dx (putF f w gs)) m2 hm
    have rk2 := putP_rep (f := f) (r.mono (e2.tup m1)) rk
    have m3 : RepH X.K (upd H2 a (.ins (He.ga X.K n) dx (putF f w gs))) (up μ2 a (.ins n (putP f v fs))) := m2.write hm ⟨dx, putF f w gs, rfl, by have := putP_len (f := f) (v := v) fs; omega, rk2.1, rk2.2.mono t⟩
    exact (c1.pre e2).nx _ _ _ _ (hρ2.mono t) m3 (Ext.write hm) p2
theorem s_ex (he : PE X p (T X.K W wa)) (hs : swapsWith p none pos.line X.env = pure false) : PS X (.Expr p pos) (TSg X.K W fun D ρ μ => wa ρ μ (fun _ μ1 => D.nx ρ μ1) (fun x μ' => D.rs x ρ μ')) :=
  (ps_expr he hs).imp fun D σ H h => by
    obtain ⟨ρ, μ, DP, hρ, m, h, c⟩ := h
    exact T.go hρ m h (c.x hρ m) fun v μ1 w H1 r m1 e1 hρ1 cx1 p1 => c.nx _ _ _ _ hρ1 m1 e1 p1
theorem s_ret (he : PE X p (T X.K W wa)) : PS X (.Return (some p) pos) (TSg X.K W fun D ρ μ => wa ρ μ (fun v μ1 => mat v μ1 D.rt) (fun x μ' => D.rs x ρ μ')) :=
  (ps_ret he).imp fun D σ H h => by
    obtain ⟨ρ, μ, DP, hρ, m, h, c⟩ := h
    exact mat_go hρ m c h fun v μ' w H' r m' e hρ' c' p => c'.rt _ _ _ _ r m' Ext.refl p
theorem s_retN : PS X (.Return none pos) (TSg X.K W fun D ρ μ => D.rt .non μ) :=
  ps_retN.imp fun D σ H h => by
    obtain ⟨ρ, μ, DP, hρ, m, h, c⟩ := h
    exact c.rt .non μ .non H rfl m Ext.refl h
theorem s_if {a b : List Stmt} (hc : PT X p (TB X.K W wc)) (ha : PSs X a (TSg X.K W sa)) (hb : PSs X b (TSg X.K W sb)) :
    PS X (.If p a b pos) (TSg X.K W fun D ρ μ => wc ρ μ (fun v μ1 => ∃ k, v = .bl k ∧ if k = true then sa D ρ μ1 else sb D ρ μ1) (fun x μ' => D.rs x ρ μ')) :=
  (ps_if hc ha hb).imp fun D σ H h => by
    obtain ⟨ρ, μ, DP, hρ, m, h, c⟩ := h
    refine ⟨ρ, μ, _, _, hρ, m, h, fun v1 μ1 w1 H1 r1 m1 e1 p1 => ?_, c.x hρ m⟩
    obtain ⟨k, rfl, p1⟩ := p1
    refine ⟨k, rfl, ?_⟩
    cases k with
    | true => exact ⟨ρ, μ1, DP, hρ.mono (e1.tup m), m1, p1, c.pre e1⟩
    | false => exact ⟨ρ, μ1, DP, hρ.mono (e1.tup m), m1, p1, c.pre e1⟩
theorem s_brk : PS X (.Break pos) (TSg X.K W fun D ρ μ => D.bk ρ μ) := ps_break.imp fun D σ H h => by
  obtain ⟨ρ, μ, DP, hρ, m, h, c⟩ := h
  exact c.bk _ _ _ _ hρ m Ext.refl h
theorem s_cont : PS X (.Continue pos) (TSg X.K W fun D ρ μ => D.ct ρ μ) := ps_continue.imp fun D σ H h => by
  obtain ⟨ρ, μ, DP, hρ, m, h, c⟩ := h
  exact c.ct _ _ _ _ hρ m Ext.refl h
theorem s_pass : PS X (.Pass pos) (TSg X.K W fun D ρ μ => D.nx ρ μ) := ps_pass.imp fun D σ H h => by
  obtain ⟨ρ, μ, DP, hρ, m, h, c⟩ := h
  exact c.nx _ _ _ _ hρ m Ext.refl h
theorem s_never {st : Stmt} : PS X st (TSg X.K W fun D ρ μ => False) := ps_never.imp fun D σ H h => by
  obtain ⟨ρ, μ, DP, hρ, m, h, c⟩ := h
  exact h
theorem s_for {k : IK} {tg : Tg} {body : List Stmt} {wps : PE_ → PM → (List PV → PM → Prop) → XPost → Prop} (hp : PassesOwn (model X.prog X.w) X.A X.env X.xe) (hc : X.calm = true) (hi : PI X q p (TIk X.K W wps k)) (hg : PG X q (gA X.K tg)) (hb : PSs X body (TSg X.K W sa))
    (hs : ∀ x, foldedSetIterable p X.env x = pure x) :
    PS X (.For q p body [] pos) (TSg X.K W fun D ρ μ => wps ρ μ (fun vs μ1 => ∃ items, itemsOf μ1 k vs = some items ∧
      walkW (fun μ' => itemsOf μ' k vs = some items) (fun x ρ' μ' k' => asgT tg x ρ' μ' fun ρ2 μ2 => sa { D with nx := k', ct := k', bk := D.nx } ρ2 μ2) D.nx items ρ μ1) (fun x μ' => D.rs x ρ μ')) :=
  (ps_for hp hc hi hg hb hs).imp fun D σ H h => by
    obtain ⟨ρ, μ, DP, hρ, m, h, c⟩ := h
    refine ⟨ρ, μ, _, _, hρ, m, h, c.x hρ m, fun vs μ0 H0 m0 e0 p0 => ?_⟩
    obtain ⟨items, ei, cw⟩ := p0
    refine ⟨items, ei, fun hlen J gw => ?_⟩
    have c0 := c.pre e0
    let st : PM → Prop := fun μ' => itemsOf μ' k vs = some items
    let step : PV → PE_ → PM → (PE_ → PM → Prop) → Prop := fun x ρ' μ' k' => asgT tg x ρ' μ' fun ρ2 μ2 => sa { DP with nx := k', ct := k', bk := DP.nx } ρ2 μ2
    let Wd : Nat → Nat → St → Hp → Prop := fun i n σ' H' => ∃ ρ' μ', n = items.length - i ∧ i ≤ items.length ∧ RepE X.K H' ρ' σ' ∧ RepH X.K H' μ' ∧ Ext μ0 H0 μ' H' ∧ walkW st step DP.nx (items.drop i) ρ' μ'
    refine ⟨Wd, ⟨items.length, ρ, μ0, rfl, Nat.zero_le _, hρ.mono (e0.tup m), m0, Ext.refl, cw⟩, ?_⟩
    rintro i n σ1 H1 ⟨ρ1, μ1, rfl, hi', hρ1, m1, e1, cw1⟩
    by_cases hlt : i < items.length
    · obtain ⟨x, hx⟩ : ∃ x, items[i]? = some x := ⟨items[i], List.getElem?_eq_getElem hlt⟩
      have hdrop : items.drop i = x :: items.drop (i + 1) := by
        rw [List.drop_eq_getElem_cons hlt]
        have : items[i] = x := by rw [List.getElem?_eq_getElem hlt] at hx; exact Option.some.inj hx
        rw [this]
      rw [hdrop] at cw1
      unfold walkW at cw1
      obtain ⟨hst, hstep⟩ := cw1
      refine .inr ⟨gw.go i μ1 H1 m1 ⟨e1, hst⟩ hlt, fun σ' H' => Wd (i + 1) (items.length - (i + 1)) σ' H', fun σ' H' hw' => ⟨_, by omega, hw'⟩, fun y H2 hy => ?_⟩
      obtain ⟨v, ev, m2, e2, r2⟩ := gw.yld i μ1 H1 y H2 m1 ⟨e1, hst⟩ hlt hy
      rw [hx] at ev; cases ev
      have e12 := e1.trans e2
      refine ⟨ρ1, μ1, x, _, hρ1.mono (e2.tup m1), m2, r2, hstep, fun ρ3 σ3 hρ3 _ hc3 => ?_⟩
      have c3 := c0.pre e12
      refine ⟨ρ3, μ1, _, hρ3, m2, hc3, ⟨fun ρ' μ' σ' H' h1 h2 h3 h4 => ?_, c3.rt, c3.nx, fun ρ' μ' σ' H' h1 h2 h3 h4 => ?_, c3.rs⟩⟩
      · exact ⟨ρ', μ', rfl, hlt, h1, h2, e12.trans h3, h4⟩
      · exact ⟨ρ', μ', rfl, hlt, h1, h2, e12.trans h3, h4⟩
    · have he : i = items.length := by omega
      subst he
      rw [List.drop_length] at cw1
      unfold walkW at cw1
      obtain ⟨hst, hf⟩ := cw1
      exact .inl ⟨gw.stop μ1 H1 m1 ⟨e1, hst⟩, (c0.pre e1).nx _ _ _ _ hρ1 m1 Ext.refl hf⟩
theorem s_while {body : List Stmt} (hp : PassesOwn (model X.prog X.w) X.A X.env X.xe) (hc : PT X p (TB X.K W wc)) (hb : PSs X body (TSg X.K W sa)) :
    PS X (.While p body [] pos) (TSg X.K W fun D ρ μ => ∃ Wf : Nat → PE_ → PM → Prop, (∃ m, Wf m ρ μ) ∧ ∀ m ρ μ, Wf m ρ μ → wc ρ μ (fun v μ1 => ∃ k, v = .bl k ∧
      if k = true then sa { D with nx := fun ρ' μ' => ∃ m', m' < m ∧ Wf m' ρ' μ', ct := fun ρ' μ' => ∃ m', m' < m ∧ Wf m' ρ' μ', bk := D.nx } ρ μ1 else D.nx ρ μ1) (fun x μ' => D.rs x ρ μ')) :=
  (ps_while hp hc hb).imp fun D σ H h => by
    obtain ⟨ρ, μ0, DP, hρ, m, h, c⟩ := h
    obtain ⟨Wf, ⟨n0, w0⟩, turn⟩ := h
    let Wd : Nat → St → Hp → Prop := fun n σ' H' => ∃ ρ' μ', RepE X.K H' ρ' σ' ∧ RepH X.K H' μ' ∧ Ext μ0 H μ' H' ∧ Wf n ρ' μ'
    refine ⟨Wd, ⟨n0, ρ, μ0, hρ, m, Ext.refl, w0⟩, ?_⟩
    rintro n σ1 H1 ⟨ρ1, μ1, hρ1, m1, e1, w1⟩
    have c1 := c.pre e1
    refine ⟨ρ1, μ1, _, _, hρ1, m1, turn n ρ1 μ1 w1, fun v2 μ2 w2 H2 r2 m2 e2 p2 => ?_, c1.x hρ1 m1⟩
    obtain ⟨b, rfl, p2⟩ := p2
    refine ⟨b, rfl, ?_⟩
    have hρ2 := hρ1.mono (e2.tup m1)
    have c2 := c1.pre e2
    cases b with
    | false =>
      simp only [Bool.false_eq_true, if_false] at p2 ⊢
      exact c2.nx _ _ _ _ hρ2 m2 Ext.refl p2
    | true =>
      simp only [if_true] at p2 ⊢
      refine ⟨fun σ' H' => ∃ m', m' < n ∧ Wd m' σ' H', fun σ' H' h => h, ρ1, μ2, _, hρ2, m2, p2, ⟨fun ρ' μ' σ' H' h1 h2 h3 h4 => ?_, c2.rt, c2.nx, fun ρ' μ' σ' H' h1 h2 h3 h4 => ?_, c2.rs⟩⟩
      · obtain ⟨m', hm', w'⟩ := h4
        exact ⟨m', hm', ρ', μ', h1, h2, (e1.trans e2).trans h3, w'⟩
      · obtain ⟨m', hm', w'⟩ := h4
        exact ⟨m', hm', ρ', μ', h1, h2, (e1.trans e2).trans h3, w'⟩
end
end G

namespace G
open PySem PySem.Spec PyProof.Rows L2
variable [tb : Tb]
section
variable {X : Cx} {W : WX} {p q : Expr} {pos np : Pos} {wa : PE_ → PM → Post → XPost → Prop}
/-- C(), C an own exception class without own __init__ -/
theorem pmk_own0 {C : Addr} {bmB : List Value} {B newId initId : String} {x : Str} {p : Pos} (F : ExcBaseFacts B newId initId bmB) (q : PySem.W.excIn X.K C bmB newId = true) (gC : X.mg x = some (.ref C))
    (kC : PySem.W.keepIn X.K (.ref C) = true) (r : Raises X (.ref C)) (hg : Gl X x) (hdb : (x == ("__debug__" : Str)) = false) :
    L2N.PMk X (.Call (.Name x p) [] [] pos) (fun _ H Q => Q (.ref C) none H) := by
  intro pins s σ H Q I h
  refine wpAny_Call_Name_kw (ld_glob I hg gC ?_ hdb)
  refine PySem.W.callWith_K0 I.kIn kC ?_
  show wpAny _ _ (call (.ref C) []) _ _ _
  obtain ⟨bm, N, nm, qn, bs, hdct, sn, sub, ab, col, dd, k0, k1, k2, k3, k5, mN, hC, hN, hni, T⟩ := exc_obj I.kIn q
  obtain ⟨hp1, g1, d1, tk1, os1⟩ := s
  refine wpAny_call_exc_subT F T hC hN hni (fun h' e hm => ?_) (Nat.zero_le _)
  exact L2N.mk_of I hm r h (I.hok.gone hm.new)
theorem s_raise {c x : Str} {px : Pos} {pos2 : Pos} {G : GS} (hc : X.calm = true) (tk : L2N.Takes X W) (e : ExF G X.K X.mg) (hm : c ∈ G.excs) (hg : Gl X c) (hdb : (c == ("__debug__" : Str)) = false) :
    PS X (.Raise (some (.Call (.Name c px) [] [] pos)) none pos2) (TSg X.K W fun D ρ μ => D.rs ⟨c, []⟩ ρ μ) := by
  obtain ⟨bmB, B, newId, initId, F, q⟩ := e.mkx c hm
  have hs : PySem.W.subIn X.K (.ref (He.ga X.K c)) (.type "BaseException") = some true := (e.cl c hm).hs
  have r := raises_own (X := X) hs (e.ty c hm)
  refine (L2N.ps_raise hc tk (pmk_own0 F q (e.nm c hm).1 (e.nm c hm).2 r hg hdb)).imp fun D σ H h => ?_
  obtain ⟨ρ, μ, DP, hρ, m, h, c'⟩ := h
  exact c'.rs _ ρ μ _ _ σ H ⟨rfl, .inl ⟨rfl, rfl⟩⟩ hρ m Ext.refl h
/-- isinstance(e, c), e the exception that is handled -/
theorem c_isx {C : Calls} {cl : Cl} {u : V} {D a : Addr} {c : Str} (hev : C.ev.ex = some (a, c)) (hr : CallR X (.builtin "isinstance") (rIsE X.K (He.ga X.K c) a)) (hk : PySem.W.kitOne X.K (.ref (He.ga X.K c)) (clV X.K cl) = some (exIs c cl))
    (hg : Gl X "isinstance") (hm : X.mg "isinstance" = none) (ha : PE X p (T X.K W wa)) (hs : noStar p = true) (hq : PE X q (tC (clW X.K cl))) (hs2 : noStar q = true) :
    PE X (.Call (.Name "isinstance" np) [p, q] [] pos) (T X.K W fun ρ μ P Y => wa ρ μ (fun v μ1 => ∃ a c, v = .ref a ∧ C.ev.ex = some (a, c) ∧ P (.bl (exIs c cl)) μ1) Y) :=
  (pe_callB hr hg hm (by decide +kernel) (pa_cons ha (pa_cons hq pa_nil (star_cons _ hs2)) (star_cons _ hs)) (by decide) (by decide) (star_cons _ hs) (star_back _ _ (by simp [hs2]))).imp fun σ H Q h => by
    obtain ⟨ρ, μ, P, Y, hρ, m, h, c0, cx⟩ := h
    refine T.go hρ m h cx fun v1 μ1 w1 H1 r1 m1 e1 hρ1 cx1 p1 => ?_
    obtain ⟨a', c', rfl, e2, p1⟩ := p1
    rw [hev] at e2
    cases e2
    refine ⟨clW X.K cl, clV X.K cl, exIs c cl, ?_, ?_, hk, (c0.pre e1).bl m1 p1⟩
    · rw [show w1 = .ref a from r1]
    · intro u hu
      cases cl with
      | bt n => exact hu
      | own d => exact hu
/-- try: body / except c as n: suite -/
theorem s_try {C : Calls} {G : GS} {xs : List Str} {c x n : Str} {i : Nat} {np pos' : Pos} {body : List Stmt} {b0 : Stmt} {suite : List Stmt} {wb : PEnds → PE_ → PM → Prop} {wsu : Addr × Str → PEnds → PE_ → PM → Prop} (e : ExF G X.K X.mg) (hm : c ∈ G.excs) (hxs : ∀ y ∈ xs, y ∈ G.excs)
    (hs : X.stack = X.env :: X.outer) (hf : X.env.frame = some X.env.locals) (hN : X.N.Nodup) (hi : X.N[i]? = some n) (hln : X.env.kindOf n = some .local) (hg : Gl X c) (hdb : (c == ("__debug__" : Str)) = false) (tk : L2N.Takes X W) (hexc : ∀ y : PX, True)
    (hb : ∀ (W : WX) (pn : List (Addr × Obj)) (xe : Value → Shared → Prop), L2N.Takes (X.tr pn xe) W → PassesOwn (model X.prog X.w) X.A X.env xe → PSs (X.tr pn xe) body (TSg X.K W wb))
    (hsu : ∀ (a : Addr) (oe : Obj) (cl : Str) (pn : List (Addr × Obj)), cl ∈ G.excs → L2N.Zn (.ref (He.ga X.K cl)) none oe → (∃ vs, oe.data = .fields vs) → PSs (X.suite a ((a, oe) :: pn)) (b0 :: suite) (TSg X.K (fun _ _ _ _ => False) (wsu (a, cl)))) :
    PS X (.Try body [.ExceptHandler (some (.Name c np)) (some n) (b0 :: suite) pos'] [] [] pos) (TSg X.K W fun D ρ μ => wb { D with rs := fun x ρ' μ' => x.cls ∈ xs ∧ if exIs x.cls (.own c) = true then x.fs = [] ∧ ∀ a, μ' a = none → wsu (a, x.cls) { nx := fun ρ2 μ2 => D.nx (ρ2.set i none) μ2, rt := D.rt, bk := fun ρ2 μ2 => D.bk (ρ2.set i none) μ2, ct := fun ρ2 μ2 => D.ct (ρ2.set i none) μ2, rs := fun _ _ _ => False } (ρ'.set i (some (.ref a))) μ' else D.rs x ρ' μ' } ρ μ) := by
  refine (L2N.ps_try_as hs hf hN hi hln (c := .ref (He.ga X.K c)) ⟨hg, hdb, .inl (e.nm c hm).1⟩ tk (tb := fun W => TSg X.K W wb)
    (ts := fun a cls d D σ H => ∃ cl, cl ∈ G.excs ∧ cls = .ref (He.ga X.K cl) ∧ d = none ∧ TSg X.K (fun _ _ _ _ => False) (wsu (a, cl)) D σ H) (fun W pn xe tk' px => hb W pn xe tk' px) (fun a oe cls d pn hz hv => ?_)).imp fun D σ H h => ?_
  · refine ⟨fun pins s σ H D I h => ?_⟩
    obtain ⟨cl, hcl, rfl, rfl, h⟩ := h
    exact (hsu a oe cl pn hcl hz hv).run pins s σ H D I h
  · obtain ⟨ρ, μ, DP, hρ, m, h, c'⟩ := h
    refine ⟨ρ, μ, _, hρ, m, h, ⟨c'.nx, c'.rt, c'.bk, c'.ct, fun y ρ' μ' cls d σ' H' h0 h1 h2 h3 h4 => ?_⟩⟩
    obtain ⟨hy, h4⟩ := h4
    have hy := hxs _ hy
    obtain ⟨rfl, hd⟩ := h0
    refine ⟨exIs y.cls (.own c), e.one _ hy _ hm, fun hb a ha => ?_, fun hb => ?_⟩
    · rw [if_pos hb] at h4
      obtain ⟨hfs, h4⟩ := h4
      have hdn : d = none := by
        rcases hd with hd | ⟨hn, _⟩
        · exact hd.2
        · exact absurd hfs hn
      refine ⟨y.cls, hy, rfl, hdn, ρ'.set i (some (.ref a)), μ', _, h1.set i (show RepV X.K H' (.ref a) (.ref a) from rfl), h2, h4 a (h2.none ha), ?_⟩
      exact ⟨fun ρ2 μ2 σ2 H2 r1 r2 r3 r4 => c'.nx _ _ _ _ (r1.gone i) r2 (h3.trans r3) r4, fun v μ2 w H2 r1 r2 r3 r4 => c'.rt v μ2 w H2 r1 r2 (h3.trans r3) r4, fun ρ2 μ2 σ2 H2 r1 r2 r3 r4 => c'.bk _ _ _ _ (r1.gone i) r2 (h3.trans r3) r4, fun ρ2 μ2 σ2 H2 r1 r2 r3 r4 => c'.ct _ _ _ _ (r1.gone i) r2 (h3.trans r3) r4, fun _ _ _ _ _ _ _ _ _ _ _ z => z.elim⟩
    · rw [if_neg (by rw [hb]; exact Bool.false_ne_true)] at h4
      exact c'.rs y ρ' μ' _ d σ' H' ⟨rfl, hd⟩ h1 h2 h3 h4
end
end G

namespace G
open PySem PySem.Spec PyProof.Rows L2 LamX
section
variable {X : Cx} {pins : List (Addr × Obj)} {σ : L2.St} {H : Hp} {s : Shared}
/-- a lambda is made; nothing goes -/
theorem lam_make3 {T : List (Addr × Str)} {c P : Addr} {params : Arguments} {body : Expr} {scope : Scope} {pos : Pos} {E : Value → Shared → Prop} {Q : Value → Shared → Prop} (I : Inv X pins σ H s) (B : TabB X.base X.mg c P) (hcd : X.env.code = .ref c)
    (hin : (P, X.env.qual ++ "<lambda>") ∈ T) (hone : ∀ p ∈ T, p.1 = P → p.2 = X.env.qual ++ "<lambda>") (tabs : Tabs T H) (hdef : defaultsOf params X.env = ([], [])) (hfr : ∀ y ∈ scope.names, y.2 = .free → ∃ c, X.env.cells.lookup y.1 = some c)
    (k : ∀ (f c' : Addr) (pm ctv : Value) (H1 : Hp) (s' : Shared), Inv X pins σ H1 s' → ExtN H H1 → (∀ b, H1 b = none → H b = none) → Tabs T H1 →
      s'.heap.get? f = some (PySem.W.kla_obj "<lambda>" (X.env.qual ++ "<lambda>") params body scope (cloFrom X.env.cells scope.names []) pm c' ctv) → H1 f = none → f ∉ frs X.stack → H1 c' = some (CodeO c' (X.env.qual ++ "<lambda>")) → Q (.ref f) s') :
    wpAny (model X.prog X.w) X.A (eval (.Lambda params body scope pos) X.env) Q E s := by
  obtain ⟨ps, e0, ok0, al⟩ := tabs _ hin
  refine PySem.W.kla_eval hdef ?_
  have bi : s.heap.BuiltinsAt X.mg P := B.bm.keeps I.bk
  have e1 : s.heap.get? P = some { cls := .none, data := .fields ps } := I.hok P _ e0
  have notFrame : ∀ f, s.heap.objs.size ≤ f → f ∉ frs X.stack := fun f hf z => by
    rcases List.mem_cons.mp (I.stkSub _ z) with e | e
    · have lt := I.lt
      rw [← e] at lt
      exact Nat.lt_irrefl _ (Nat.lt_of_lt_of_le lt hf)
    · exact I.nofs hf e
  cases among : codeAmong pos ps.toList with
  | some cv =>
    obtain ⟨c', rfl, co⟩ := al pos cv among
    refine PySem.W.kla_makeFunctionHit (mg := X.mg) (c := c) (P := P) (ps := ps) (closure_ok hfr) I.ok.glob (I.mod.glob.keeps I.bk) hcd (B.code.keeps I.bk) e1 ok0 among bi fun ctv h' tk old size => ?_
    have J : Inv X pins σ H { s with heap := h'.push (PySem.W.kla_obj "<lambda>" (X.env.qual ++ "<lambda>") params body scope (cloFrom X.env.cells scope.names []) ((X.mg "__name__").getD .none) c' ctv), toks := tk } := I.kept fun b o e => Heap.get?_push_of_some _ (old b o e)
    exact k h'.objs.size c' ((X.mg "__name__").getD .none) ctv H _ J (ExtN.refl H) (fun _ z => z) tabs (Heap.get?_push_size _ rfl) (I.hok.fresh size) (notFrame _ size) co
  | none =>
    refine PySem.W.kla_makeFunction (mg := X.mg) (c := c) (P := P) (ps := ps) (closure_ok hfr) I.ok.glob (I.mod.glob.keeps I.bk) hcd (B.code.keeps I.bk) e1 ok0 among B.gP bi fun c' ctv h' tk old ge lt rec_ tab_ => ?_
    obtain ⟨c2, oc, vs, t, e2, hoc, hd, hv⟩ := rec_
    cases e2
    have size : s.heap.objs.size ≤ h'.objs.size := Nat.le_trans ge (Nat.le_of_lt lt)
    have fresh : H c' = none := I.hok.fresh ge
    have J := inv_table (t' := tk) (more := #[rawInt pos.line, rawInt pos.col, .ref c']) (h' := h'.push (PySem.W.kla_obj "<lambda>" (X.env.qual ++ "<lambda>") params body scope (cloFrom X.env.cells scope.names []) ((X.mg "__name__").getD .none) c' ctv)) I e0
      (fun b o nb e => Heap.get?_push_of_some _ (old b o nb e)) (Heap.get?_push_of_some _ tab_) ge ⟨oc, vs, t, Heap.get?_push_of_some _ hoc, hd, hv⟩
    have stay : ExtN H (upd (upd H P (.tbl (ps ++ #[rawInt pos.line, rawInt pos.col, .ref c']))) c' (CodeO c' (X.env.qual ++ "<lambda>"))) := fun b o e n => by
      have n1 : b ≠ c' := fun z => by rw [z, fresh] at e; cases e
      have n2 : b ≠ P := fun z => by rw [z, e0] at e; exact n ps (Option.some.inj e).symm
      rw [upd_ne n1, upd_ne n2]
      exact e
    have nPc : P ≠ c' := fun z => by rw [← z, e0] at fresh; cases fresh
    have eL : (ps ++ #[rawInt pos.line, rawInt pos.col, .ref c']).toList = ps.toList ++ [rawInt pos.line, rawInt pos.col, .ref c'] := by simp
    refine k h'.objs.size c' ((X.mg "__name__").getD .none) ctv _ _ J stay (fun b z => ?_) (fun p hp => ?_) (Heap.get?_push_size _ rfl) ?_ (notFrame _ size) upd_same
    · by_cases q : b = c'
      · rw [q, upd_same] at z; cases z
      · rw [upd_ne q] at z
        by_cases q2 : b = P
        · rw [q2, upd_same] at z; cases z
        · rw [upd_ne q2] at z; exact z
    · by_cases q : p.1 = P
      · rw [hone p hp q, q]
        refine ⟨_, by rw [upd_ne nPc, upd_same], by rw [eL]; exact PySem.TriplesOk_snoc _ _ _ _ ok0, fun p' cv g => ?_⟩
        rw [eL] at g
        rcases among_app _ ok0 g with z | z
        · obtain ⟨c0, g1, g2⟩ := al p' cv z
          exact ⟨c0, g1, stay _ _ g2 codeO_ne⟩
        · exact ⟨c', z, upd_same⟩
      · obtain ⟨ps', a1, a2, a3⟩ := tabs p hp
        have n1 : p.1 ≠ c' := fun z => by rw [z, fresh] at a1; cases a1
        refine ⟨ps', by rw [upd_ne n1, upd_ne q]; exact a1, a2, fun p' cv g => ?_⟩
        obtain ⟨c0, g1, g2⟩ := a3 p' cv g
        exact ⟨c0, g1, stay _ _ g2 codeO_ne⟩
    · have n1 : h'.objs.size ≠ c' := Nat.ne_of_gt lt
      have n2 : h'.objs.size ≠ P := Nat.ne_of_gt (Nat.lt_of_lt_of_le (Heap.lt_size e1) size)
      rw [upd_ne n1, upd_ne n2]
      exact I.hok.fresh size
end
section
variable {X : Cx} {pins : List (Addr × Obj)} {σ : L2.St} {H : Hp} {s : Shared}
/-- the thunk is called, in the def that got it; what it raises is wished for at the slots there -/
theorem pe_actS {CXg : CXT} {Eg : XK} {Ng : List Str} {qg : Str} {sg : Scope} {g f c' : Addr} {cdg pm ctv : Value} {params : Arguments} {body : Expr} {scope : Scope} {k i : Nat} {a : Str} {pn : List (Addr × Obj)} {xe : Value → Shared → Prop} {W : WX} {tbd : XK → TE} {p1 p2 : Pos}
    (I : Inv X pins σ H s) (L : LamS X.env.scope scope) (of0 : s.heap.get? f = some (PySem.W.kla_obj "<lambda>" (X.env.qual ++ "<lambda>") params body scope (cloFrom X.env.cells scope.names []) pm c' ctv)) (nH : H f = none) (nfr : f ∉ frs X.stack)
    (hbind : bindArgs (PySem.W.kla_fn "<lambda>" (X.env.qual ++ "<lambda>") params body scope (cloFrom X.env.cells scope.names []) pm (.ref c') ctv) ⟨[], []⟩ = pure [])
    (tk : L2N.Takes ((cxOf CXg X.prog X.w X.K X.mg X.base Ng qg sg g cdg X.A X.stack s H Eg).tr pn xe) W) (room : Room (k + 1) (X.A.deeper (envOfC qg sg s.heap.objs.size g cdg)))
    (hbody : ∀ (A : Around) (outer : List Env) (s : Shared) (H : Hp) (E : XK), Room k (A.deeper (lamEnv X scope s.heap.objs.size f c')) → PE (lamN X A outer s H E scope f c') body (tbd E))
    (hN : Ng[i]? = some a) (hv : Vis sg a) (hd : (a == ("__debug__" : Str)) = false) (hcd : (a == ("__classdict__" : Str)) = false) :
    PE ((cxOf CXg X.prog X.w X.K X.mg X.base Ng qg sg g cdg X.A X.stack s H Eg).tr pn xe) (.Call (.Name a p1) [] [] p2)
      (fun σZ HZ Q => σZ[i]? = some (some (.ref f)) ∧ HZ c' = some (CodeO c' (X.env.qual ++ "<lambda>")) ∧ tbd (fun cls d H' => W cls d σZ H') σ HZ Q) := by
  refine ⟨fun pinsZ sZ σZ HZ Q IZ h => ?_⟩
  obtain ⟨slot, code, ht⟩ := h
  refine wpAny_Call_Name_kw (thn ((pe_var (pos := p1) (i := i) hN hv hd hcd).run pinsZ sZ σZ HZ (fun v H1 => v = .ref f ∧ H1 = HZ) IZ ⟨.ref f, slot, rfl, rfl⟩) fun u s1 ⟨v, H1, J, r1, q1⟩ => ?_)
  obtain ⟨rfl, rfl⟩ := q1
  obtain rfl : u = Value.ref f := r1
  have of1 : s1.heap.get? f = some (PySem.W.kla_obj "<lambda>" (X.env.qual ++ "<lambda>") params body scope (cloFrom X.env.cells scope.names []) pm c' ctv) := J.base.keep f _ of0 nH nfr (fun z => nomatch (show f ∈ ([] : List Addr) from z))
  refine PySem.W.callWith_F0 ⟨_, _, _, _, of1⟩ ?_
  have un : Un (frs X.stack) [] H H1 s.heap s1.heap := J.base
  obtain ⟨⟨oc, vs, t, hoc, hdc, hvc⟩, _, _⟩ := J.hok c' _ code
  have run : codeAny (model X.prog X.w) (X.A.deeper (envOfC qg sg s.heap.objs.size g cdg)) (.call (.ref f) ⟨[], []⟩) (CR (L2N.CX X.prog X.w) (envOfC qg sg s.heap.objs.size g cdg :: X.stack) X.prog X.w H1 s1 Q (fun cls d H' => W cls d σZ H')) s1 := by
    refine PySem.W.kla_callFunE room.depth of1 rfl L.co L.gen rfl ⟨c', oc, vs, t, rfl, hoc, hdc, hvc⟩ ?_
    rw [hbind]
    refine wpAny_pure (wpAny_newFunctionEnv (fun y hy => (L.own y hy).2) (fun y hy => absurd hy (by simp)) (fun h1 hns hsb => ⟨J.nolimit.fresh _ hsb, ?_⟩) L.kind)
    show codeAny _ _ (.expr body (lamEnv X scope s1.heap.objs.size f c')) _ _
    have kp : ∀ b o, s1.heap.get? b = some o → h1.get? b = some o := fun b o e => hsb.extBut b o (Nat.ne_of_lt (Heap.lt_size e)) (Heap.get?_push_of_some _ e)
    have J2 : Inv (lamN X (X.A.deeper (envOfC qg sg s.heap.objs.size g cdg)) (envOfC qg sg s.heap.objs.size g cdg :: X.stack) s1 H1 (fun cls d H' => W cls d σZ H') scope f c') [] σ H1 { s1 with heap := h1, toks := s1.toks + ([] : List (Str × Value)).length } :=
      Inv.wish (X := lamCx X (X.A.deeper (envOfC qg sg s.heap.objs.size g cdg)) (envOfC qg sg s.heap.objs.size g cdg :: X.stack) s1 H1 (fun cls d H' => W cls d σZ H') scope f c') (lam_start2 I L J.env0 room.hd un hns kp) _
    refine PySem.W.kla_codeExpr (wpAny_mono ((hbody _ _ s1 H1 _ (room.deeper _)).run [] _ _ H1 Q J2 ht) (fun v s' hq => ?_) fun e s' hq => hq)
    obtain ⟨w', H', J', rv, q⟩ := hq
    exact ⟨w', H', J'.os, J'.bare, J'.base, J'.hok, rv, q⟩
  refine wpAny_call (codeAny_mono run fun r s' hq => ?_)
  cases r with
  | error e => exact tk e s' (L2N.XE.of_call J (fun cls d H' h => h) hq)
  | ok fl =>
    cases fl with
    | ret u => exact J.after hq
    | next => exact False.elim hq
    | brk => exact False.elim hq
    | cont => exact False.elim hq
end

section
variable {t : Tb} {K : PySem.W.Frag} {H : Hp} {μ : PM}
theorem rh_at (m : @RepH t K H μ) : ∀ a o, μ a = some o → ∃ h, H a = some h ∧ RepO K H o h := @RepH.at_ t K H μ m
theorem rh_kept (m : @RepH t K H μ) {a : Addr} {o : HO} (h : @Tb.kept t a o) : H a = some o := @TbOk.kept t H (@RepH.tb t K H μ m) a o h
theorem rh_tabs (m : @RepH t K H μ) : Tabs (@Tb.tabs t) H := @TbOk.tabs t H (@RepH.tb t K H μ m)
theorem rh_mk (h1 : ∀ a o, μ a = some o → ∃ h, H a = some h ∧ RepO K H o h) (h2 : Tabs (@Tb.tabs t) H) (h3 : ∀ a o, @Tb.kept t a o → H a = some o) : @RepH t K H μ := @RepH.mk t K H μ h1 (@TbOk.mk t H h2 h3)
end
/-- .. with a code object, and with all tuples of H -/
@[reducible] def Tb.more (tb : Tb) (c : Addr) (q : Str) (H : Hp) : Tb := ⟨tb.tabs, fun a o => tb.kept a o ∨ (a = c ∧ o = CodeO c q) ∨ (H a = some o ∧ ((∃ xs, o = .tup xs) ∨ ∃ b xs, o = .frz b (.tup xs))), fun a o h => by
  rcases h with h | ⟨_, h⟩ | ⟨_, h | h⟩
  · exact tb.nk a o h
  · exact .inr (.inr ⟨_, _, h⟩)
  · exact .inl h
  · exact .inr (.inl h)⟩
section
variable [tb : Tb] {K : PySem.W.Frag} {H H1 H2 : Hp} {μ μ1 μ2 : PM} {c : Addr} {q : Str}
theorem RepH.none_nk (m : RepH K H μ) {a : Addr} {o : HO} (h : H a = some o) (n : NK o) : μ a = Option.none := by
  cases e : μ a with
  | none => rfl
  | some p =>
    obtain ⟨h0, e1, e2⟩ := m.at_ a p e
    rw [h] at e1
    cases e1
    exact absurd n e2.nt.2
theorem nk_nt {o : HO} (n : NK o) : ∀ ps, o ≠ .tbl ps := fun ps e => by
  subst e
  rcases n with ⟨_, e⟩ | ⟨_, _, e⟩ | ⟨_, _, e⟩
  · cases e
  · cases e
  · unfold CodeO at e; cases e
theorem RepH.wk (m : @RepH (tb.more c q H1) K H μ) : RepH K H μ := rh_mk (rh_at m) (by have z := rh_tabs m; exact z) fun a o h => rh_kept m (.inl h)
theorem RepH.st (m : @RepH (tb.more c q H1) K H μ) (e : Ext μ H μ2 H2) (m2 : RepH K H2 μ2) : @RepH (tb.more c q H1) K H2 μ2 :=
  rh_mk (rh_at m2) (by have z := rh_tabs m2; exact z) fun a o h => by
    have nk := @Tb.nk (tb.more c q H1) a o h
    have h0 := rh_kept m h
    exact e.keep a o h0 (nk_nt nk) (RepH.none_nk (RepH.wk m) h0 nk)
theorem RepH.tl (m : @RepH (tb.more c q H1) K H μ) : TupLe K H1 H := fun a xs h => by
  rcases h with (h | ⟨o, h⟩) | h
  · exact .inl (.inl (rh_kept m (.inr (.inr ⟨h, .inl ⟨_, rfl⟩⟩))))
  · exact .inl (.inr ⟨o, rh_kept m (.inr (.inr ⟨h, .inr ⟨_, _, rfl⟩⟩))⟩)
  · exact .inr h
theorem RepH.code (m : @RepH (tb.more c q H1) K H μ) : H c = some (CodeO c q) := rh_kept m (.inr (.inl ⟨rfl, rfl⟩))
end
section
variable [tb : Tb]
theorem RepE.start {K : PySem.W.Frag} {H : Hp} {N : List Str} {pvs : List PV} {vs : List V} (r : RepVs K H pvs vs) : RepE K H (startP N.length pvs) (L2.start N vs) := by
  unfold startP L2.start
  have hl := r.length
  refine ⟨by simp [hl], fun i v e => ?_⟩
  by_cases h : i < pvs.length
  · rw [List.getElem?_append_left (by simpa using h)] at e
    rw [List.getElem?_map] at e
    cases q : pvs[i]? with
    | none => rw [q] at e; cases e
    | some x =>
      rw [q] at e
      cases e
      obtain ⟨w, h1, h2⟩ := r.get q
      exact ⟨w, by rw [List.getElem?_append_left (by simp; omega), List.getElem?_map, h1]; rfl, h2⟩
  · rw [List.getElem?_append_right (by simp; omega)] at e
    rw [List.getElem?_replicate] at e
    split at e <;> cases e

end
/-- a def of one parameter, x: what the written part says -/
structure ToS (K : PySem.W.Frag) (mg : Str → Option Value) (x nm q : Str) (g : Addr) (pg : Arguments) (bg : List Stmt) (sg : Scope) (dV kV doc pm cdv ct oc : Value) (an od : Option Addr) (osl : Array (Option Value)) (Ng : List Str) (a : Str) : Prop where
  hm : mg x = some (.ref g)
  hk : PySem.W.keepIn K (.ref g) = true
  lk : K.lookup g = some ⟨oc, od, .func (PySem.W.fnOf nm q pg bg sg dV kV doc pm an cdv ct), osl⟩
  hcg : PySem.W.codeIn K cdv q = true
  hb : L2.Binds K (PySem.W.fnOf nm q pg bg sg dV kV doc pm an cdv ct) [a] []
  Sg : FnScope Ng [a] sg
  hN : Ng[0]? = some a
  hv : Vis sg a
  hd : (a == ("__debug__" : Str)) = false
  hcd : (a == ("__classdict__" : Str)) = false
/-- .. and that its body has the reading of fi's, whatever thunk it is handed -/
def ToB (P : Program) (w : World) (K : PySem.W.Frag) (mg : Str → Option Value) (base : Heap) (k : Nat) (x : Str) (g : Addr) (bg : List Stmt) (sg : Scope) (cdv : Value) (Ng : List Str) (fi : FI) (hf : Nat → Addr × Str → List PV → PM → Post → Prop) : Prop :=
  ∀ (tb' : Tb) (A : Around) (outer : List Env) (s : Shared) (H : Hp) (f : Addr) (Tt : PM → Post → XPost → Prop), Room k (A.deeper (envOfC x sg s.heap.objs.size g cdv)) →
    (∀ (pn : List (Addr × Obj)) (xe : Value → Shared → Prop) (W : WX) (nm : Str) (p1 p2 : Pos), Ng[0]? = some nm → L2N.Takes ((cxOf (L2N.CX P w) P w K mg base Ng x sg g cdv A outer s H (fun _ _ _ => False)).tr pn xe) W →
      PE ((cxOf (L2N.CX P w) P w K mg base Ng x sg g cdv A outer s H (fun _ _ _ => False)).tr pn xe) (.Call (.Name nm p1) [] [] p2) (@G.T tb' K W fun ρ μ P Y => ρ[0]? = some (some (.ref f)) ∧ Tt μ P Y)) →
    PSs (cxOf (L2N.CX P w) P w K mg base Ng x sg g cdv A outer s H (fun _ _ _ => False)) bg (@TSg tb' K (fun _ _ _ _ => False) (wpSs (Calls.none { th := some (f, Tt), hf := hf }) fi.body))
/-- where the maker's code object and its table stand -/
structure ToC (T : List (Addr × Str)) (X : Cx) (c P : Addr) : Prop where
  B : TabB X.base X.mg c P
  cd : X.env.code = .ref c
  mem : (P, X.env.qual ++ "<lambda>") ∈ T
  one : ∀ p ∈ T, p.1 = P → p.2 = X.env.qual ++ "<lambda>"
theorem bind_lam {q : Str} {body : Expr} {scope : Scope} {cl : List (Str × Addr)} {pm cv ctv : Value} : bindArgs (PySem.W.kla_fn "<lambda>" q ⟨[], [], none, [], [], none, []⟩ body scope cl pm cv ctv) ⟨[], []⟩ = pure [] := rfl
section
variable [tb : Tb] {X : Cx}
theorem c_lamc {k : Nat} {W : WX} {x nm q : Str} {g c P : Addr} {pg : Arguments} {bg : List Stmt} {sg : Scope} {dV kV doc pm cdv ct oc : Value} {an od : Option Addr} {osl : Array (Option Value)} {Ng : List Str} {a : Str} {fi : FI} {hf : Nat → Addr × Str → List PV → PM → Post → Prop} {lsc : Scope} {b : Expr} {wb : PE_ → PM → Post → XPost → Prop} {lf : (PM → Post → XPost → Prop) → PM → Post → XPost → Prop} {p lpos pos : Pos}
    (S : ToS X.K X.mg x nm q g pg bg sg dV kV doc pm cdv ct oc an od osl Ng a) (D : ToB X.prog X.w X.K X.mg X.base (k + 1) q g bg sg cdv Ng fi hf) (C : ToC tb.tabs X c P) (hN : fi.N = Ng.length)
    (hlf : ∀ Tt μ P Y, lf Tt μ P Y → ∀ f, μ f = none → wpSs (Calls.none { th := some (f, Tt), hf := hf }) fi.body { nx := fun _ μ' => P .non μ', rt := P, bk := fun _ _ => False, ct := fun _ _ => False, rs := fun _ _ _ => False } (startP fi.N [.ref f]) μ)
    (hr : Room (k + 2) X.A) (hg : Gl X x) (hdb : (x == ("__debug__" : Str)) = false) (L : LamS X.env.scope lsc) (hbody : lamK k X lsc b wb) :
    PE X (.Call (.Name x p) [.Lambda ⟨[], [], none, [], [], none, []⟩ b lsc lpos] [] pos) (G.T X.K W fun ρ μ P Y => lf (fun μ' P' X' => wb ρ μ' P' X') μ P Y) := by
  refine ⟨fun pins s σ H Q I h => ?_⟩
  obtain ⟨ρ, μ, Pp, Y, hρ, m, hw, c0, cx⟩ := h
  refine wpAny_Call_Name_kw (ld_glob I hg S.hm ?_ hdb)
  refine PySem.W.callWith_K (h₀ := X.base) I.ok.mod.kin S.hk ?_ (by rfl) (by rfl)
  show wpAny _ _ (spliced ((false, eval (.Lambda ⟨[], [], none, [], [], none, []⟩ b lsc lpos) X.env) :: backTo pos (starEach [] X.env))) _ _ s
  refine Calls.spliced_cons (lam_make3 I C.B C.cd C.mem C.one m.tb.tabs rfl (L.has I.ok) fun f c' pm' ctv H1 s' I1 eN dm T1 of0 nH nfr co => ?_)
  refine Calls.spliced_nil ⟨I1.kIn, ?_⟩
  have tl : TupLe X.K H H1 := fun a xs h => by
    rcases h with (h | ⟨o, h⟩) | h
    · exact .inl (.inl (eN _ _ h (fun _ z => nomatch z)))
    · exact .inl (.inr ⟨o, eN _ _ h (fun _ z => nomatch z)⟩)
    · exact .inr h
  have m1 : RepH X.K H1 μ := ⟨fun a o e => by
    obtain ⟨h0, e1, e2⟩ := m.at_ a o e
    exact ⟨h0, eN _ _ e1 e2.nt.1, e2.mono tl⟩, ⟨T1, fun a o h => eN _ _ (m.tb.kept a o h) (nk_nt (tb.nk a o h))⟩⟩
  have e1 : Ext μ H μ H1 := ⟨fun a o h t _ => eN _ _ h t, fun a h => dm a h, fun a n _ => n⟩
  have hρ1 : RepE X.K H1 ρ σ := hρ.mono tl
  have m2 : @RepH (tb.more c' (X.env.qual ++ "<lambda>") H1) X.K H1 μ := rh_mk (rh_at m1) (by have z := rh_tabs m1; exact z) fun a o h => by
    rcases h with h | ⟨h1, h2⟩ | ⟨h, _⟩
    · exact rh_kept m1 h
    · rw [h1, h2]; exact co
    · exact h
  have rc : codeAny (model X.prog X.w) X.A (.call (.ref g) ⟨[.ref f], []⟩) (CR (L2N.CX X.prog X.w) X.stack X.prog X.w H1 s' Q (fun _ _ _ => False)) s' := by
    refine run_ofS (N := Ng) (ps := [a]) (us := [.ref f]) (vs := [.ref f]) S.lk S.hcg S.Sg hr I1.env0 (S.hb s' [.ref f] I1.kIn rfl) (.cons rfl .nil) rfl fun hr' => ?_
    refine ⟨_, D (tb.more c' (X.env.qual ++ "<lambda>") H1) X.A X.stack s' H1 f (fun μ' P' X' => wb ρ μ' P' X') hr' (fun pn xe W2 nm p1 p2 hnm tk2 => ?_), ?_⟩
    · have en : nm = a := Option.some.inj (hnm.symm.trans S.hN)
      subst en
      refine (pe_actS (i := 0) (tbd := fun E => G.T X.K (fun cls d _ H => E cls d H) wb) I1 L of0 nH nfr bind_lam tk2 hr' (fun A outer s H E hr2 => hbody A outer s H E f c' hr2) S.hN S.hv S.hd S.hcd).imp fun σZ HZ QZ q => ?_
      obtain ⟨ρZ, μZ, PZ, YZ, hρZ, mZ, ⟨q0, q1⟩, cZ, cxZ⟩ := q
      obtain ⟨w0, q2, q3⟩ := hρZ.2 0 _ q0
      have q3' : w0 = .ref f := q3
      rw [q3'] at q2
      refine ⟨q2, RepH.code mZ, ρ, μZ, PZ, YZ, hρ1.mono (RepH.tl mZ), RepH.wk mZ, q1, fun v μ' w H' r m' e p => cZ v μ' w H' r (RepH.st mZ e m') e p, fun y μ' cls d H' r m' e p => cxZ y μ' cls d H' r (RepH.st mZ e m') e p⟩
    · refine ⟨startP fi.N [.ref f], μ, { nx := fun _ μ' => Pp .non μ', rt := Pp, bk := fun _ _ => False, ct := fun _ _ => False, rs := fun _ _ _ => False }, ?_, m2, hlf _ _ _ _ hw f (m1.none nH), @EOk.mk (tb.more c' (X.env.qual ++ "<lambda>") H1) _ _ _ _ _ _ (fun ρ' μ' σ' H' h1 h2 h3 h4 => ?_) (fun v μ' w H' h1 h2 h3 h4 => ?_) (fun _ _ _ _ _ _ _ z => z.elim) (fun _ _ _ _ _ _ _ z => z.elim) (fun _ _ _ _ _ _ _ _ _ _ _ z => z.elim)⟩
      · rw [hN]
        exact @RepE.start (tb.more c' (X.env.qual ++ "<lambda>") H1) X.K H1 Ng [.ref f] [.ref f] (RepVs.cons rfl RepVs.nil)
      · exact c0 .non μ' .non H' rfl (RepH.wk h2) (e1.trans h3) h4
      · exact c0 v μ' w H' (Res.of h1) (RepH.wk h2) (e1.trans h3) h4
  refine wpAny_call (codeAny_mono rc fun r s2 hq => ?_)
  cases r with
  | error e =>
    obtain ⟨_, _, _, _, _, _, _, _, _, _, _, _, z⟩ := hq
    exact z.elim
  | ok fl =>
    cases fl with
    | ret u => exact I1.after hq
    | next => exact False.elim hq
    | brk => exact False.elim hq
    | cont => exact False.elim hq
end
end G

namespace G
open PySem PySem.Spec PyProof.Rows L2
variable [tb : Tb]

theorem attB_ok {o : Expr} {m : Str} {env : Env} {wh : Sem Value} (h : attB o = true) : attributeBase o m env wh = wh := by
  cases o with
  | Call f es ks pos =>
    cases f with
    | Name x p =>
      cases es with
      | nil =>
        cases ks with
        | nil => cases h
        | cons _ _ => rfl
      | cons _ _ => rfl
    | _ => rfl
  | _ => rfl
theorem form_ok {es : List Expr} {pos : Pos} {env : Env} (h : es.all noStar = true) (hl : es.length < 30) :
    ((backTo pos (starEach es env)).all (fun x => !x.1) && (backToKw pos (keywordEach [] env)).all (fun x => x.1.isSome) && decide (es.length + ([] : List Keyword).length + (if ([] : List Keyword).isEmpty then 0 else 1) < 30)) = true := by
  have h1 : (backTo pos (starEach es env)).all (fun x => !x.1) = true := by
    have := star_back (es := es) pos env h
    rw [List.all_eq_true]
    rw [List.any_eq_false] at this
    intro x hx
    have := this x hx
    simpa using this
  rw [h1]
  simp
  exact ⟨by intro a b h; simp [keywordEach, backToKw] at h, hl⟩
theorem ht_of {o : Expr} {m : Str} {apos pos : Pos} {es : List Expr} {env : Env} (h : attB o = true) (hs : es.all noStar = true) (hl : es.length < 30) (hline : (apos.endLine == pos.line) = true) :
    eval (.Call (.Attribute o m apos) es [] pos) env = (do
      let ov ← eval o env
      standAt apos.atName
      let (f, first) ← holding [ov] (getMethod ov m (plainOf o env))
      callWith pos f first (backTo pos (starEach es env)) (backToKw pos (keywordEach [] env))) := by
  rw [arm_eval_Call, attB_ok h]
  congr 1
  funext ov
  congr 1
  funext _
  exact mcall_line (form_ok hs hl) hline
section
variable {X : Cx} {CX : CXT} {k : Nat} {f C : Addr} {fd : FuncData} {ps : List Str} {sp : Sp} {E : St → XK} {x m : Str} {p pos apos : Pos} {e o : Expr} {es : List Expr} {ta : TE} {t : TA}
def tMethS (C : Addr) (m : Str) (sp : Sp) (E : St → XK) (ta : TE) (t : TA) : TE := fun σ H Q => ta σ H fun x H1 => ∃ a dx fs, x = .ref a ∧ H1 a = some (.ins C dx fs) ∧ fs.lookup m = none ∧
  t σ H1 fun vs H2 => sp (x :: vs) H2 Q (E σ)
theorem pe_methS' {pl : Sem Bool} (he : PE X o ta) (c : Cls X.K C) (hm : Meth X.K C m f) (F : FnOk X.prog X.w X.K X.mg X.base CX k f fd ps sp) (hr : Room k X.A) (hb : Binds X.K fd ps []) (hx : ∀ σ, PassesAt CX X σ (E σ)) (ha : PA X (e :: es) t)
    (hst : starEach (e :: es) X.env = (false, eval e X.env) :: starEach es X.env) (hpl : (backTo pos (starEach es X.env)).any (·.1) = false)
    (ht : eval (.Call (.Attribute o m apos) (e :: es) [] pos) X.env = (do
      let ov ← eval o X.env
      standAt apos.atName
      let (f, first) ← holding [ov] (getMethod ov m pl)
      callWith pos f first (backTo pos (starEach (e :: es) X.env)) (backToKw pos (keywordEach [] X.env)))) :
    PE X (.Call (.Attribute o m apos) (e :: es) [] pos) (tMethS C m sp E ta t) := by
  refine ⟨fun pins s σ H Q I h => ?_⟩
  refine PySem.W.methodCall_KW (pl := pl) (thn (he.run pins s σ H _ I h) fun u s1 ⟨x, H1, I1, rx, a, dx, fs, ex, ea, l, q⟩ => ?_) ht
  subst ex
  obtain rfl : u = Value.ref a := rx
  refine getmeth_ok I1 ea c hm l ?_
  refine PySem.W.callWith_K (first := [.ref a]) (h₀ := X.base) I.ok.mod.kin hm.kp (thn (ha.run pos pins s1 σ H1 _ I1 q) fun us s2 ⟨vs, H2, I2, r, q2⟩ => ⟨I2.kIn, ?_⟩) hst hpl
  exact run_fnS (us := .ref a :: us) (vs := .ref a :: vs) F hr hb (hx σ) I2 (.cons rfl r) q2
theorem pe_methS0' {pl : Sem Bool} (he : PE X o ta) (c : Cls X.K C) (hm : Meth X.K C m f) (F : FnOk X.prog X.w X.K X.mg X.base CX k f fd ps sp) (hr : Room k X.A) (hb : Binds X.K fd ps []) (hx : ∀ σ, PassesAt CX X σ (E σ))
    (ht : eval (.Call (.Attribute o m apos) [] [] pos) X.env = (do
      let ov ← eval o X.env
      standAt apos.atName
      let (f, first) ← holding [ov] (getMethod ov m pl)
      callWith pos f first (backTo pos (starEach [] X.env)) (backToKw pos (keywordEach [] X.env)))) :
    PE X (.Call (.Attribute o m apos) [] [] pos) (tMethS C m sp E ta tNil) := by
  refine ⟨fun pins s σ H Q I h => ?_⟩
  refine PySem.W.methodCall_KW (pl := pl) (thn (he.run pins s σ H _ I h) fun u s1 ⟨x, H1, I1, rx, a, dx, fs, ex, ea, l, q⟩ => ?_) ht
  subst ex
  obtain rfl : u = Value.ref a := rx
  refine getmeth_ok I1 ea c hm l ?_
  exact PySem.W.callWith_K0 (first := [.ref a]) I1.kIn hm.kp (run_fnS (us := [.ref a]) (vs := [.ref a]) F hr hb (hx σ) I1 (.cons rfl .nil) q)
end
section
variable {X : Cx} {W : WX} {p q r o : Expr} {pos np apos : Pos} {wa wb wc : PE_ → PM → Post → XPost → Prop} {ws : PE_ → PM → (List PV → PM → Prop) → XPost → Prop} {es : List Expr} {x : Str} {k : Nat} {f : Addr} {call : List PV → PM → Post → XPost → Prop}
theorem meth_red {n m : Str} {σ : St} {H : Hp} {Q : VK} (h : T X.K W (fun ρ μ P Y => wa ρ μ (fun x μ1 => ∃ a fs, x = .ref a ∧ μ1 a = some (.ins n fs) ∧ fs.lookup m = none ∧ ws ρ μ1 (fun vs μ2 => call (x :: vs) μ2 P Y) Y) Y) σ H Q) :
    tMethS (He.ga X.K n) m (spOf X.K call) (WE W) (T X.K W wa) (TAm X.K W ws) σ H Q := by
  obtain ⟨ρ, μ, P, Y, hρ, hm, h, c, cx⟩ := h
  refine T.go hρ hm h cx fun v1 μ1 w1 H1 r1 m1 e1 hρ1 cx1 p1 => ?_
  obtain ⟨a, fs, rfl, e, l, p1⟩ := p1
  obtain ⟨hh, f1, dx, gs, rfl, z, rk⟩ := m1 a _ e
  have hl : gs.lookup m = none := by
    cases q : gs.lookup m with
    | none => rfl
    | some w =>
      have : ∀ {fs : List (Str × PV)} {gs : List (Str × V)}, gs.map (·.1) = fs.map (·.1) → fs.lookup m = none → gs.lookup m = none := by
        intro fs
        induction fs with
        | nil => intro gs e _; cases gs with
          | nil => rfl
          | cons _ _ => simp at e
        | cons p fs ih =>
          intro gs e hl
          cases gs with
          | nil => rfl
          | cons q gs =>
            simp only [List.map_cons, List.cons.injEq] at e
            obtain ⟨p1, p2⟩ := p
            obtain ⟨q1, q2⟩ := q
            simp only at e
            obtain ⟨rfl, e⟩ := e
            simp only [List.lookup_cons] at hl ⊢
            cases z : m == q1 with
            | true => rw [z] at hl; cases hl
            | false => rw [z] at hl; exact ih e hl
      rw [this rk.1 l] at q; cases q
  refine ⟨a, dx, gs, r1, f1, hl, ρ, μ1, _, Y, hρ1, m1, p1, fun vs μ2 ws2 H2 r2 m2 e2 p2 => ?_, cx1⟩
  have e12 := e1.trans e2
  exact ⟨.ref a :: vs, μ2, P, Y, RepVs.cons r1 r2, m2, p2, fun v μ3 w H3 r3 m3 e3 p3 => c v μ3 w H3 (Res.of r3) m3 (e12.trans e3) p3, fun x μ3 cls d H3 rx m3 e3 p3 => cx x μ3 cls d H3 rx m3 (e12.trans e3) p3⟩
theorem c_meth {n m : Str} (F : FnF X.prog X.w X.K X.mg X.base k call f) (hc : Cls X.K (He.ga X.K n)) (hm : Meth X.K (He.ga X.K n) m f) (hr : Room k X.A) (tk : L2N.Takes X W) (hb : attB o = true) (hs : es.all noStar = true) (hl : es.length < 30) (hline : (apos.endLine == pos.line) = true)
    (ho : PE X o (T X.K W wa)) (ha : PA X es (TAm X.K W ws)) (h0 : es = [] → ws = fun ρ μ P Y => P [] μ) :
    PE X (.Call (.Attribute o m apos) es [] pos) (T X.K W fun ρ μ P Y => wa ρ μ (fun x μ1 => ∃ a fs, x = .ref a ∧ μ1 a = some (.ins n fs) ∧ fs.lookup m = none ∧ ws ρ μ1 (fun vs μ2 => call (x :: vs) μ2 P Y) Y) Y) := by
  obtain ⟨fd, ps, F1, hbi⟩ := F.ok
  cases es with
  | nil =>
    have e := h0 rfl
    subst e
    refine (pe_methS0' ho hc hm F1 hr hbi (fun σ => L2N.passAt tk σ) (ht_of hb hs hl hline)).imp fun σ H Q h => ?_
    obtain ⟨ρ, μ, P, Y, hρ, m', h, c, cx⟩ := meth_red (wa := wa) (ws := fun ρ μ P Y => P [] μ) (call := call) (n := n) (m := m) h
    refine ⟨ρ, μ, P, Y, hρ, m', h, fun v μ1 w H1 r1 m1 e1 p1 => ?_, cx⟩
    obtain ⟨a, dx, fs, q1, q2, q3, q4⟩ := c v μ1 w H1 r1 m1 e1 p1
    exact ⟨a, dx, fs, q1, q2, q3, am_tnil q4⟩
  | cons e rest =>
    have hs' := hs
    simp only [List.all_cons, Bool.and_eq_true] at hs'
    exact (pe_methS' ho hc hm F1 hr hbi (fun σ => L2N.passAt tk σ) ha (star_cons _ hs'.1) (star_back _ _ hs'.2) (ht_of hb hs hl hline)).imp fun σ H Q h => meth_red h

structure BmG (X : Cx) (m : Bm) (id : String) (r : V → List V → Hp → VK → Prop) : Prop where
  pa : PlainAttrs (bmTy m)
  slot : Slot (bmTy m) (bmName m) id
  ty : typeOf (.builtin id) = pure (.type "method_descriptor")
  mt : MtR X id r
  go : ∀ (H0 : Hp) (μ : PM) (H : Hp) (x : PV) (w : V) (vs : List PV) (us : List V) (P : Post) (Q : VK), RepH X.K H μ → Res X.K H0 μ H x w → RepVs X.K H vs us → Cont X.K μ H P Q → bmW m x vs μ P → r w us H Q
theorem repvs1 {K : PySem.W.Frag} {H : Hp} {x : PV} {ws : List V} (r : RepVs K H [x] ws) : ∃ w, ws = [w] ∧ RepV K H x w := by
  obtain ⟨w, r, rfl, h1, h2⟩ := r
  cases (show r = [] from h2)
  exact ⟨w, rfl, h1⟩
theorem big_line {n : Nat} (h : n < 10000000) : n < sizeLine := Nat.lt_of_lt_of_le h (by rw [sizeLine_eq]; decide)
theorem Cont.writeL {μ : PM} {H : Hp} {P : Post} {Q : VK} {a : Addr} {xs ys : List PV} {vs : List V} {v : PV} {w : V} (c : Cont X.K μ H P Q) (m : RepH X.K H μ) (hm : μ a = some (.lst xs)) (z : ys.length ≤ sizeLine) (r : RepVs X.K H ys vs) (rv : RepV X.K H v w) (p : P v (up μ a (.lst ys))) :
    Q w (upd H a (.lst vs)) := by
  have t := RepH.tupW (h := .lst vs) m hm
  exact c v _ w _ (Res.of (rv.mono t)) (m.write (o := .lst ys) hm ⟨vs, rfl, z, r.mono t⟩) (Ext.write hm) p
theorem bm_append : BmG X .append "list.append" rAppend := ⟨F.plainAttrs_list, F.slot_list_append, F.type_list_append, mt_append, fun H0 μ H x w vs us P Q m r rs c h => by
  match x, vs, h with
  | .ref a, [v], ⟨xs, hm, z, p⟩ =>
    obtain ⟨u, rfl, ru⟩ := repvs1 rs
    obtain ⟨hh, e1, ws, rfl, z2, rr⟩ := m a _ hm
    refine ⟨a, ws, u, res_ref r, rfl, e1, by rw [← rr.length]; exact big_line z, ?_⟩
    exact c.writeL (v := .non) (w := .non) m hm (by have := big_line z; simp; omega) (rr.append (RepVs.cons ru RepVs.nil)) rfl p⟩
theorem bm_extend : BmG X .extend "list.extend" rExtend := ⟨F.plainAttrs_list, F.slot_list_extend, F.type_list_extend, mt_extend, fun H0 μ H x w vs us P Q m r rs c h => by
  match x, vs, h with
  | .ref a, [v], ⟨xs, ys, hm, hl, z, p⟩ =>
    obtain ⟨u, rfl, ru⟩ := repvs1 rs
    obtain ⟨hh, e1, ws, rfl, z2, rr⟩ := m a _ hm
    obtain ⟨b, ws2, rfl, e2, rr2, z3⟩ := lst_res m (Res.of (H0 := H) ru) hl
    refine ⟨a, b, ws, ws2, res_ref r, rfl, e1, e2, by rw [← rr.length, ← rr2.length]; exact Nat.le_of_lt (big_line z), ?_⟩
    exact c.writeL (v := .non) (w := .non) m hm (by have := big_line z; simp; omega) (rr.append rr2) rfl p⟩
theorem RepVs.dropLast {K : PySem.W.Frag} {H : Hp} {xs : List PV} {vs : List V} (r : RepVs K H xs vs) : RepVs K H xs.dropLast vs.dropLast := by
  rw [List.dropLast_eq_take, List.dropLast_eq_take, r.length]
  exact r.take _
theorem bm_pop : BmG X .pop "list.pop" rPop := ⟨F.plainAttrs_list, F.slot_list_pop, F.type_list_pop, mt_pop, fun H0 μ H x w vs us P Q m r rs c h => by
  match x, vs, h with
  | .ref a, [], ⟨xs, y, hm, hy, p⟩ =>
    cases (show us = [] from rs)
    obtain ⟨hh, e1, ws, rfl, z2, rr⟩ := m a _ hm
    obtain ⟨u, f1, f2⟩ := rr.get hy
    refine ⟨a, ws, u, res_ref r, rfl, e1, by rw [← rr.length]; exact f1, ?_⟩
    exact c.writeL m hm (by rw [List.length_dropLast]; omega) rr.dropLast f2 p⟩
theorem strs_rep {K : PySem.W.Frag} {H : Hp} : ∀ {xs : List PV} {ws : List V} {ss : List Str}, RepVs K H xs ws → allOf strOf xs = some ss → ws = ss.map V.str
  | [], ws, ns, r, e => by cases (show ws = [] from r); cases e; rfl
  | x :: xs, ws, ns, r, e => by
    obtain ⟨v, vs, rfl, r1, r2⟩ := r
    unfold allOf at e
    cases x with
    | str i =>
      cases q : allOf strOf xs with
      | none => simp [strOf, q] at e
      | some ms =>
        simp [strOf, q] at e; subst e
        rw [(show v = .str i ∧ _ from r1).1, strs_rep r2 q]; rfl
    | _ => simp [strOf] at e
theorem bm_join : BmG X .join "str.join" (fun x xs H Q => ∃ a p, ∃ ys : List Str, x = .str a ∧ xs = [.ref p] ∧ (SqL X.K H p (ys.map V.str) ∨ SqT X.K H p (ys.map V.str)) ∧
    (ys.map (·.length)).sum + ys.length * a.length ≤ 16777216 ∧ Q (.str (Txt.join a ys)) H) := ⟨F.plainAttrs_str, F.slot_str_join, F.type_str_join, mt_join, fun H0 μ H x w vs us P Q m r rs c h => by
  match x, vs, h with
  | .str z, [v], ⟨xs, ss, e1, e2, hz, hl, p⟩ =>
    obtain ⟨u, rfl, ru⟩ := repvs1 rs
    obtain ⟨a, ws, rfl, hs, rr, _⟩ := seq_res m (Res.of (H0 := H) ru) e1
    have := strs_rep rr e2
    subst this
    exact ⟨z, a, ss, (res_str r).1, rfl, hs, by omega, c.here (v := .str _) m ⟨rfl, hl⟩ p⟩⟩
theorem RepVs.strs {K : PySem.W.Frag} {H : Hp} : ∀ ss : List Str, (∀ s ∈ ss, s.length ≤ sizeLine) → RepVs K H (ss.map .str) (ss.map V.str)
  | [], _ => RepVs.nil
  | s :: ss, h => RepVs.cons ⟨rfl, h s List.mem_cons_self⟩ (RepVs.strs ss fun t ht => h t (List.mem_cons_of_mem _ ht))
theorem bm_split : BmG X .split "str.split" (fun x xs H Q => ∃ a b, x = .str a ∧ xs = [.str b] ∧ (b.length == 0) = false ∧ a.length + 2 ≤ sizeLine ∧ rNewStrs (Txt.split a b) H Q) := ⟨F.plainAttrs_str, F.slot_str_split, F.type_str_split, mt_split, fun H0 μ H x w vs us P Q m r rs c h => by
  match x, vs, h with
  | .str z, [.str b], ⟨h1, h2, h3, h4, p⟩ =>
    obtain ⟨u, rfl, ru⟩ := repvs1 rs
    refine ⟨z, b, (res_str r).1, by rw [(show u = .str b ∧ _ from ru).1], h1, h2, fun q n => ?_⟩
    exact c.tmp m n (RepVs.strs _ h4) (by rw [List.length_map]; exact h3) p⟩
def rCountF (K : PySem.W.Frag) : V → List V → Hp → VK → Prop := fun x xs H Q => ∃ (a : Addr) (ys : List V) (y : V), x = V.ref a ∧ xs = [y] ∧ SqL K H a ys ∧ flatV y = true ∧ ys.all flatV = true ∧ Q (.int ((ys.countP fun z => eqV z y : Nat) : Int)) H
theorem cnt_eqU {y : V} : ∀ {ys : List V} {us : List Value}, Vals ys us → ys.all flatV = true → us.countP (eqU y) = ys.countP fun z => eqV z y
  | _, _, .nil, _ => rfl
  | _, _, .cons r rs, h => by
    simp only [List.all_cons, Bool.and_eq_true] at h
    rw [List.countP_cons, List.countP_cons, cnt_eqU rs h.2, eqU_of r h.1]
theorem mt_countF : MtR X "list.count" (rCountF X.K) := by
  rintro pins s σ H x xs v us Q I rx rxs ⟨a, ys, y, rfl, rfl, hs, fy, fys, q⟩
  cases rx
  obtain ⟨u, rfl, ry⟩ := rxs.one
  obtain ⟨its, rv, ⟨⟨cls, dd, data, sl⟩, n, ho, hc, hdn, hd⟩, hlen⟩ := I.list hs
  obtain rfl : cls = .type "list" := hc
  obtain rfl : data = .seq its.toArray n := hd
  refine call_meets PySem.F.slot_list_count ⟨_, ho, rfl⟩ PySem.F.entry_list_count (PySem.F.args_list_count_2 _ _) (SeqAt.list_countAt a its.toArray n dd sl u (eqU y)) ⟨ho, fun z hz => mem_eqAt ry fy rv fys z (by simpa using hz), ?_⟩
  refine ⟨.int ((ys.countP fun z => eqV z y : Nat) : Int), H, I.tok _, ⟨s.toks, ?_⟩, q⟩
  show Value.int ((its.toArray.toList.countP (eqU y) : Nat) : Int) s.toks = _
  rw [show its.toArray.toList = its from rfl, cnt_eqU rv fys]
theorem cntP_rep {K : PySem.W.Frag} {H : Hp} {x : PV} {w : V} (r : RepV K H x w) (f : flatP x = true) : ∀ {ys : List PV} {us : List V}, RepVs K H ys us → ys.all flatP = true → (us.countP fun z => eqV z w) = ys.countP fun z => eqP z x
  | [], us, rs, _ => by cases (show us = [] from rs); rfl
  | y :: ys, us, rs, g => by
    obtain ⟨u, us, rfl, r1, r2⟩ := rs
    simp only [List.all_cons, Bool.and_eq_true] at g
    rw [List.countP_cons, List.countP_cons, cntP_rep r f r2 g.2, eq_rep r1 r g.1 f]
theorem bm_count : BmG X .count "list.count" (rCountF X.K) := ⟨F.plainAttrs_list, F.slot_list_count, F.type_list_count, mt_countF, fun H0 μ H x w vs us P Q m r rs c h => by
  match vs, h with
  | [v], ⟨xs, hl, fv, fxs, p⟩ =>
    obtain ⟨u, rfl, ru⟩ := repvs1 rs
    obtain ⟨a, ws, rfl, e1, rr, _⟩ := lst_res m r hl
    refine ⟨a, ws, u, rfl, rfl, SqL.of e1, flat_rep ru fv, flats_rep rr fxs, ?_⟩
    rw [cntP_rep ru fv rr fxs]
    exact c.here (v := .int _) m rfl p⟩
theorem bm_index : BmG X .index "list.index" (rIndex X.K) := ⟨F.plainAttrs_list, F.slot_list_index, F.type_list_index, mt_index, fun H0 μ H x w vs us P Q m r rs c h => by
  match vs, h with
  | [v], ⟨xs, j, hl, fv, fxs, hj, p⟩ =>
    obtain ⟨u, rfl, ru⟩ := repvs1 rs
    obtain ⟨a, ws, rfl, e1, rr, _⟩ := lst_res m r hl
    obtain ⟨hlt, h1, h2⟩ := List.findIdx?_eq_some_iff_getElem.mp hj
    have at_ : ∀ (i : Nat) (z' : V), ws[i]? = some z' → ∃ z, xs[i]? = some z ∧ eqV z' u = eqP z v := fun i z' hz => by
      have hi : i < xs.length := by rw [rr.length]; exact (List.getElem?_eq_some_iff.mp hz).1
      obtain ⟨w2, q1, q2⟩ := rr.get (List.getElem?_eq_getElem hi)
      rw [hz] at q1
      cases q1
      exact ⟨xs[i], List.getElem?_eq_getElem hi, eq_rep q2 ru (List.all_eq_true.mp fxs _ (List.getElem_mem hi)) fv⟩
    obtain ⟨z, f1, f2⟩ := rr.get (List.getElem?_eq_getElem hlt)
    refine ⟨a, ws, u, j, z, rfl, rfl, SqL.of e1, flat_rep ru fv, flats_rep rr fxs, f1, ?_, fun i z' hi hz => ?_, c.here (v := .int _) m rfl p⟩
    · rw [eq_rep f2 ru (List.all_eq_true.mp fxs _ (List.getElem_mem hlt)) fv]; exact h1
    · obtain ⟨z2, g1, g2⟩ := at_ i z' hz
      obtain ⟨hi2, rfl⟩ := List.getElem?_eq_some_iff.mp g1
      rw [g2]
      simpa using h2 i hi⟩
theorem bm_no {m : Bm} (pa : PlainAttrs (bmTy m)) {id : String} (slot : Slot (bmTy m) (bmName m) id) (ty : typeOf (.builtin id) = pure (.type "method_descriptor")) (h : ∀ x vs μ P, ¬ bmW m x vs μ P) : BmG X m id (fun _ _ _ _ => False) :=
  ⟨pa, slot, ty, fun _ _ _ _ _ _ _ _ _ _ _ _ h => h.elim, fun H0 μ H x w vs us P Q m r rs c q => h _ _ _ _ q⟩
theorem bmT_ok {m : Bm} {H0 H : Hp} {μ : PM} {x : PV} {w : V} (hm : RepH X.K H μ) (r : Res X.K H0 μ H x w) (h : bmT m x μ) : tyV X.K (bmTy m) w H := by
  unfold bmT at h
  split at h
  · rename_i e
    obtain ⟨z, rfl⟩ := h
    rw [e, (res_str r).1]
    exact rfl
  · rename_i e
    obtain ⟨xs, h⟩ := h
    obtain ⟨a, vs, rfl, e1, _⟩ := lst_res hm r h
    rw [e]
    exact .inl ⟨rfl, vs, SqL.of e1⟩
  · exact h.elim
theorem bm_red {m : Bm} {id : String} {rr : V → List V → Hp → VK → Prop} (B : BmG X m id rr) {σ : St} {H : Hp} {Q : VK} (h : T X.K W (fun ρ μ P Y => wa ρ μ (fun x μ1 => bmT m x μ1 ∧ ws ρ μ1 (fun vs μ2 => bmW m x vs μ2 P) Y) Y) σ H Q) :
    tBM X.K (bmTy m) rr (T X.K W wa) (TAm X.K W ws) σ H Q := by
  obtain ⟨ρ, μ, P, Y, hρ, hm, h, c, cx⟩ := h
  refine T.go hρ hm h cx fun v1 μ1 w1 H1 r1 m1 e1 hρ1 cx1 p1 => ?_
  obtain ⟨ht, p1⟩ := p1
  refine ⟨bmT_ok m1 r1 ht, ρ, μ1, _, Y, hρ1, m1, p1, fun vs μ2 us H2 r2 m2 e2 p2 => ?_, cx1⟩
  exact B.go H μ2 H2 v1 w1 vs us P Q m2 (r1.ext m1 e2) r2 (c.pre (e1.trans e2)) p2
theorem c_bm {m : Bm} {id : String} {rr : V → List V → Hp → VK → Prop} (B : BmG X m id rr) (hb : attB o = true) (hs : es.all noStar = true) (hl : es.length < 30) (hline : (apos.endLine == pos.line) = true)
    (ho : PE X o (T X.K W wa)) (ha : PA X es (TAm X.K W ws)) (h0 : es = [] → ws = fun ρ μ P Y => P [] μ) :
    PE X (.Call (.Attribute o (bmName m) apos) es [] pos) (T X.K W fun ρ μ P Y => wa ρ μ (fun x μ1 => bmT m x μ1 ∧ ws ρ μ1 (fun vs μ2 => bmW m x vs μ2 P) Y) Y) := by
  cases es with
  | nil =>
    have e := h0 rfl
    subst e
    refine (pe_bm0 B.pa B.slot B.ty B.mt ho (attB_ok hb) hline).imp fun σ H Q h => ?_
    obtain ⟨ρ, μ, P, Y, hρ, m', h, c, cx⟩ := bm_red (wa := wa) (ws := fun ρ μ P Y => P [] μ) B h
    refine ⟨ρ, μ, P, Y, hρ, m', h, fun v μ1 w H1 r1 m1 e1 p1 => ?_, cx⟩
    obtain ⟨q1, q2⟩ := c v μ1 w H1 r1 m1 e1 p1
    exact ⟨q1, am_tnil q2⟩
  | cons e rest =>
    have hs' := hs
    simp only [List.all_cons, Bool.and_eq_true] at hs'
    exact (pe_bm B.pa B.slot B.ty B.mt ho ha (attB_ok hb) (form_ok hs hl) hline (star_cons _ hs'.1) (star_back _ _ hs'.2)).imp fun σ H Q h => bm_red B h
end
end G

namespace G
open PySem PySem.Spec PyProof.Rows L2
variable [tb : Tb]
theorem firsts_snoc (xs : List Str) (x : Str) : firsts (xs ++ [x]) = if x ∈ firsts xs then firsts xs else firsts xs ++ [x] := by
  unfold firsts
  rw [List.foldl_append]
  rfl
theorem firsts_le (xs : List Str) : (firsts xs).length ≤ xs.length := by
  have : ∀ (l acc : List Str), (l.foldl (fun acc x => if x ∈ acc then acc else acc ++ [x]) acc).length ≤ acc.length + l.length := by
    intro l
    induction l with
    | nil => intro acc; simp
    | cons y l ih =>
      intro acc
      simp only [List.foldl_cons, List.length_cons]
      refine Nat.le_trans (ih _) ?_
      split
      · omega
      · simp; omega
  simpa [firsts] using this xs []
section
variable {prog : Program} {w : World} {A : Around} {R : Result → Shared → Prop} {I : Addr} {fp wr : List Addr} {G : Array GenState → Array GenState → Prop} {n : Nat} {P : Nat → Value → Prop} {St : Nat → Shared → Prop}
theorem loopStrN (W : WalksS prog w A.in1 I fp wr G n P St) (S : Addr) (hSf : S ∉ fp) (xs : List Str) (hsz : xs.length = n) (hn1 : n ≤ 1000)
    (hval : ∀ i v, P i v → ∃ t, v = .str (xs.getD i Str.empty) t) :
    ∀ (k i : Nat) (s : Shared), n - i = k → i ≤ n → St i s →
      s.heap.SetOf (PySem.strKind prog w) S (fun k' => decide (k' ∈ firsts (xs.take i))) (firsts (xs.take i)).length →
      (∀ s', Moved (S :: wr) G s s' → s'.heap.SetOf (PySem.strKind prog w) S (fun k' => decide (k' ∈ firsts (xs.take n))) (firsts (xs.take n)).length → R (.ok (.ret .none)) s') →
      codeAny (model prog w) A (.builtin "set.update.loop" ⟨[.ref S, .ref I], []⟩) R s := by
  have hSw : S ∉ wr := fun h => hSf (W.sub _ h)
  have hsub : ∀ b ∈ wr, b ∈ S :: wr := fun b hb => List.mem_cons_of_mem _ hb
  intro k
  induction k with
  | zero =>
    intro i s hk hi hst hS hR
    have hin : i = n := by omega
    subst hin
    refine codeAny_builtin PyProof.Rows.F.entry_set_update_loop ?_
    rw [Around.under_plainId PyProof.Rows.F.plain_set_update_loop _]
    show wpAny _ A.in1 (pyNext (.ref I) >>= _) _ _ s
    refine wpAny_bind (W.done s _ _ hst fun s' hm => ?_)
    show wpAny _ A.in1 (ret Value.none) _ _ s'
    exact wpAny_pure (hR s' (hm.mono hsub) (by
      obtain ⟨o, es, ep, t, ho, rest⟩ := hS
      exact ⟨o, es, ep, t, hm.heap S _ hSw ho, rest⟩))
  | succ k ih =>
    intro i s hk hi hst hS hR
    have hlt : i < n := by omega
    refine codeAny_builtin PyProof.Rows.F.entry_set_update_loop ?_
    rw [Around.under_plainId PyProof.Rows.F.plain_set_update_loop _]
    show wpAny _ A.in1 (pyNext (.ref I) >>= _) _ _ s
    refine wpAny_bind (W.item i s _ _ hlt hst fun v s' hP hst' hm => ?_)
    obtain ⟨t, rfl⟩ := hval i v hP
    have hS' : s'.heap.SetOf (PySem.strKind prog w) S (fun k' => decide (k' ∈ firsts (xs.take i))) (firsts (xs.take i)).length := by
      obtain ⟨o, es, ep, tb, ho, rest⟩ := hS
      exact ⟨o, es, ep, tb, hm.heap S _ hSw ho, rest⟩
    show wpAny _ A.in1 (holding [Value.str (xs.getD i Str.empty) t] (setAdd S (.str (xs.getD i Str.empty) t)) >>= _) _ _ s'
    refine wpAny_bind (wpAny_holding ?_)
    unfold setAdd
    refine wpAny_holding ?_
    refine wpAny_bind ((PySem.strKind prog w).pyHash (k := xs.getD i Str.empty) (strKind_is _ _ _ _) ?_)
    refine wpAny_setAddHashed_of (knd := PySem.strKind prog w) (s := { s' with toks := s'.toks + 1 }) (strKind_is _ _ _ _) rfl hS' (by have := firsts_le (xs.take i); have h2 : (xs.take i).length ≤ xs.length := List.length_take_le' .. ; unfold scanBound; omega) fun h' hsb hS2 => ?_
    have hSi : h'.SetOf (PySem.strKind prog w) S (fun k' => decide (k' ∈ firsts (xs.take (i + 1)))) (firsts (xs.take (i + 1))).length := by
      have hx : xs.take (i + 1) = xs.take i ++ [xs.getD i Str.empty] := by
        have hlt2 : i < xs.length := by omega
        rw [List.take_add_one, List.getElem?_eq_getElem hlt2, List.getD_eq_getElem?_getD, List.getElem?_eq_getElem hlt2]
        rfl
      rw [hx, firsts_snoc]
      generalize xs.getD i Str.empty = x at hS2 ⊢
      generalize firsts (xs.take i) = fs at hS2 ⊢
      refine SetOf_congr hS2 (fun k' => ?_) ?_
      · by_cases q : x ∈ fs
        · rw [if_pos q]
          by_cases e : k' = x
          · subst e; simp [q]
          · simp [e]
        · rw [if_neg q]
          by_cases e1 : k' ∈ fs <;> by_cases e2 : k' = x <;> simp [e1, e2]
      · by_cases q : x ∈ fs
        · rw [if_pos q]; simp [q]
        · rw [if_neg q]; simp [q]
    refine wpAny_pure ⟨plainId_quiet PyProof.Rows.F.plain_set_update_loop _, ih (i + 1) _ (by omega) hlt (W.frame _ s' _ _ hst' (Nat.le_succ _) fun b hb o e => ?_) hSi fun s'' hm'' hS'' => ?_⟩
    · rw [hsb.2 b (fun h : b = S => hSf (by rw [← h]; exact hb))]; exact e
    · refine hR s'' (Moved.trans W.gtrans ((hm.mono hsub).then_heap (Nat.le_succ _) fun b o hb e => ?_) hm'') hS''
      rw [hsb.2 b (fun h : b = S => hb (by rw [h]; exact List.mem_cons_self))]; exact e

end
section
variable {prog : Program} {w : World} {A : Around} {E : Value → Shared → Prop} {s : Shared}
set_option maxHeartbeats 3200000 in
theorem call_set_tupleN {l : Addr} {items : Array Value} {xs : List Str} {Q : Value → Shared → Prop}
    (hh : A.handled = none) (hl : s.heap.IsTuple l items) (hi : PyProof.Rows.StrsAre items.toList xs) (hn1 : xs.length ≤ 1000)
    (h : ∀ (h' : Heap) (tk : Nat), h'.SetOf (PySem.strKind prog w) s.heap.objs.size (fun k' => decide (k' ∈ firsts (xs.take items.size))) (firsts (xs.take items.size)).length →
      (∀ b o, b < s.heap.objs.size → s.heap.get? b = some o → h'.get? b = some o) → Q (.ref s.heap.objs.size) { s with heap := h', toks := tk }) :
    wpAny (model prog w) A (call (.type "set") [.ref l]) Q E s := by
  obtain ⟨c, tl, hmro⟩ := PySem.F.called_set.mro
  have hmade := PySem.F.called_set.made
  have hsub := PySem.F.called_set.sub
  refine wpAny_call (codeAny_of_tree ?_)
  show wpAny _ _ (callAny (.type "set") _) _ _ _
  refine wpAny_pure ⟨Code.quiet_builtin _ (by decide +kernel), codeAny_builtin PySem.F.entry_type_call ?_⟩
  rw [Around.under_plain (weight_type_call_type "set" [.ref l] []) rfl]
  have h1 := PySem.F.called_set.notType
  have h2 := PySem.F.called_set.canCreate
  have hct := PySem.F.typeCall_set_1 (.ref l)
  repeat (any_goals (first | assumption | wp_step))

  refine codeAny_mono (code_set_new_1 (.ref l) (E := E) (Q₁ := fun obj s₁ => ∃ led : Bool, obj = .ref s.heap.objs.size ∧ s₁ = { s with heap := s.heap.push { cls := .type "set", dict := none, data := .set #[] 0 (.fresh 0 0 led) } }) fun led => ⟨led, rfl, rfl⟩) fun r s₁ hr => ?_
  cases r with
  | error e => exact hr
  | ok fl =>
    cases fl with
    | ret obj =>
      obtain ⟨led, rfl, rfl⟩ := hr
      have hS : (s.heap.push { cls := .type "set", dict := none, data := .set #[] 0 (.fresh 0 0 led) }).get? s.heap.objs.size = some { cls := .type "set", dict := none, data := .set #[] 0 (.fresh 0 0 led) } := Heap.get?_push_size _ rfl
      have hT : Shared.TypeIs { s with heap := s.heap.push { cls := .type "set", dict := none, data := .set #[] 0 (.fresh 0 0 led) } } (.ref s.heap.objs.size) "set" := ⟨_, hS, rfl⟩
      have hli := PySem.F.called_set.init.lookup
      have hbi := PySem.F.called_set.init.bind (.ref s.heap.objs.size)
      repeat (any_goals (first | assumption | wp_step))

      refine codeAny_mono (codeAny_call_builtin (R := wants (fun r s₂ => r = .none ∧ ∃ h' tk, s₂ = { s with heap := h', toks := tk } ∧
          h'.SetOf (PySem.strKind prog w) s.heap.objs.size (fun k' => decide (k' ∈ firsts (xs.take items.size))) (firsts (xs.take items.size)).length ∧
          (∀ b o, b < s.heap.objs.size → s.heap.get? b = some o → h'.get? b = some o)) E) PySem.F.called_set.init.plain PySem.F.entry_set_init (check_set_init_1 hT ?_)) fun r₂ s₂ hr₂ => ?_
      · obtain ⟨ol, hol, hcl, nl, hdl⟩ := hl
        obtain ⟨ocls, odict, odata, oslots⟩ := ol
        simp only at hcl hdl
        subst hcl; subst hdl
        have hol' : (s.heap.push { cls := .type "set", dict := none, data := .set #[] 0 (.fresh 0 0 led) }).get? l = some { cls := .type "tuple", dict := odict, data := .seq items nl, slots := oslots } := Heap.get?_push_of_some _ hol
        have hsls := PySem.F.sub_tuple_set
        have hslf := PySem.F.sub_tuple_frozenset
        have hne : (Value.type "tuple" == Value.type "dict") = false := by decide
        have hl1 : (s.heap.push { cls := .type "set", dict := none, data := .set #[] 0 (.fresh 0 0 led) }).IsTuple l items := ⟨_, hol', rfl, nl, rfl⟩
        unfold Builtin.«set.__init__» noKeywords Builtin.Frozenset.updateFrom
        generalize hPI : pyIter = PI
        wp_walk
        subst hPI

        refine wpAny_pyIter_tuple hl1 ?_
        refine wpAny_bind (wpAny_runValue ?_)
        have hlS : l < s.heap.objs.size := Heap.lt_size hol
        have hh3 : A.in1.in1.in1.handled = none := by simp [hh]
        have hneI : l ≠ (s.heap.push { cls := .type "set", dict := none, data := .set #[] 0 (.fresh 0 0 led) }).objs.size := by
          rw [Heap.size_push]; exact Nat.ne_of_lt (Nat.lt_succ_of_lt hlS)
        have hSf : s.heap.objs.size ∉ [(s.heap.push { cls := .type "set", dict := none, data := .set #[] 0 (.fresh 0 0 led) }).objs.size, l] := by
          rw [Heap.size_push]; simp only [List.mem_cons, List.mem_singleton, List.not_mem_nil, or_false, not_or]
          exact ⟨Nat.ne_of_lt (Nat.lt_succ_self _), Nat.ne_of_gt hlS⟩
        have hsz : xs.length = items.size := by rw [← StrsAre.len_eq hi, Array.length_toList]
        have hval : ∀ (i : Nat) (v : Value), items[i]? = some v → ∃ t, v = .str (xs.getD i Str.empty) t := fun i v hv => SS.strs_at hi i v (by rw [Array.getElem?_toList]; exact hv)
        refine loopStrN ((Walks.tuple hh3 _ l hneI items).toS) s.heap.objs.size
          hSf xs hsz (by rw [← hsz]; exact hn1) hval (items.size - 0) 0 _ (by omega) (Nat.zero_le _)
          ⟨⟨_, Heap.get?_push_size _ rfl, rfl, rfl⟩, (hl1.push _)⟩ ?hS0 ?hR
        case hS0 =>
          have hget : ((s.heap.push { cls := .type "set", dict := none, data := .set #[] 0 (.fresh 0 0 led) }).push { cls := .type "tuple_iterator", data := .fields #[.ref l, .int 0 0] }).get? s.heap.objs.size
              = some { cls := .type "set", dict := none, data := .set #[] 0 (.fresh 0 0 led) } := Heap.get?_push_of_some _ hS
          exact PyProof.Rows.SetOf_congr ((PyProof.Rows.setObjOf_fresh (knd := PySem.strKind prog w) led).setOf hget (by unfold scanBound; omega)) (fun _ => by simp [firsts]) (by simp [firsts])
        case hR =>
          intro s' hm hS'
          obtain ⟨h', g', d', tk', os'⟩ := s'
          have eg : g' = s.gens := hm.gens
          have ed : d' = s.drawn := hm.drawn
          have eo : os' = s.os := hm.os
          subst eg; subst ed; subst eo
          show wpAny _ _ _ _ _ _
          refine wpAny_pure ?_
          show wpAny _ _ (ret Value.none) _ _ _
          refine wpAny_pure ⟨rfl, h', tk', rfl, hS', fun b o hb e => ?_⟩
          have hb1 : b ≠ s.heap.objs.size := Nat.ne_of_lt hb
          have hb2 : b ≠ (s.heap.push { cls := .type "set", dict := none, data := .set #[] 0 (.fresh 0 0 led) }).objs.size := by
            rw [Heap.size_push]; exact Nat.ne_of_lt (Nat.lt_succ_of_lt hb)
          exact hm.heap b o (by simp only [List.mem_cons, List.mem_singleton, List.not_mem_nil, or_false, not_or]; exact ⟨hb1, hb2⟩) (Heap.get?_push_of_some _ (Heap.get?_push_of_some _ e))

      · cases r₂ with
        | error e => exact hr₂
        | ok fl₂ =>
          cases fl₂ with
          | ret r =>
            obtain ⟨rfl, h', tk, rfl, hS', hk'⟩ := hr₂
            repeat (any_goals (first | assumption | wp_step))
            exact h _ _ hS' hk'
          | _ => exact hr₂.elim
    | _ => exact hr.elim

end
section
variable {X : Cx} {W : WX} {a : Expr} {wa : PE_ → PM → Post → XPost → Prop} {p p2 q pos : Pos}
def tLenSetN (K : PySem.W.Frag) (ta : TE) : TE := fun σ H Q => ta σ H fun x H1 => ∃ l, ∃ xs : List Str, x = .ref l ∧ SqT K H1 l (xs.map V.str) ∧ xs.length ≤ 1000 ∧ Q (.int (firsts xs).length) H1
theorem pe_lenSetN {ta : TE} (hc : X.calm = true) (hg : Gl X "len") (hm : X.mg "len" = none) (hg2 : Gl X "set") (hm2 : X.mg "set" = none) (ha : PE X a ta)
    (na : starEach [a] X.env = (false, eval a X.env) :: starEach [] X.env) : PE X (.Call (.Name "len" p) [.Call (.Name "set" p2) [a] [] q] [] pos) (tLenSetN X.K ta) := by
  refine ⟨fun pins s σ H Q I h => ?_⟩
  refine Call_ (ld_blt I hg hm boot_len ?_)
  refine PyProof.Rows.callWith_builtin1 (PyProof.Rows.args_cons ?_ rfl) rfl rfl
  refine Call_ (ld_blt I hg2 hm2 boot_set ?_)
  refine PyProof.Rows.callWith_type1 (PyProof.Rows.args_cons (thn (ha.run pins s σ H _ I h) fun v s1 ⟨x, H1, I1, r1, q1⟩ => PyProof.Rows.args_nil ?_) na) na rfl
  obtain ⟨l, xs, rfl, hq, h1, q1⟩ := q1
  cases r1
  obtain ⟨its, r, pl, hz⟩ := I1.tuple hq
  refine call_set_tupleN (I1.ok.hd hc) pl (by simpa using strsAre_of r) h1 fun h' tk hS hk => ?_
  refine PyProof.Rows.args_nil ?_
  have hl : its.toArray.size = xs.length := by rw [List.size_toArray, ← r.length, List.length_map]
  rw [hl, List.take_length] at hS
  obtain ⟨o, es, ep, t, ho, hex, hd, _, _, _, hf, hn⟩ := hS
  have I2 : Inv X pins σ H1 { s1 with heap := h', toks := tk } := I1.kept fun b o e => hk b o (Heap.lt_size e) e
  have hle := firsts_le xs
  exact call_len_set ho hex hd hf (by rw [hn] <;> omega) ⟨.int (firsts xs).length, H1, I2.tok _, ⟨_, by rw [hn]⟩, q1⟩
theorem c_lset (hc : X.calm = true) (hg : Gl X "len") (hm : X.mg "len" = none) (hg2 : Gl X "set") (hm2 : X.mg "set" = none) (ha : PE X a (T X.K W wa)) (hs : noStar a = true) :
    PE X (.Call (.Name "len" p) [.Call (.Name "set" p2) [a] [] q] [] pos) (T X.K W fun ρ μ P Y => wa ρ μ (fun x μ1 => ∃ xs ss, x = .tup xs ∧ allOf strOf xs = some ss ∧ ss.length ≤ 1000 ∧ P (.int (firsts ss).length) μ1) Y) :=
  (pe_lenSetN hc hg hm hg2 hm2 ha (star_cons _ hs)).imp fun σ H Q h => seq1 (g := fun x μ1 P => ∃ xs ss, x = .tup xs ∧ allOf strOf xs = some ss ∧ ss.length ≤ 1000 ∧ P (.int (firsts ss).length) μ1) (R := fun x H1 Q => ∃ l, ∃ xs : List Str, x = .ref l ∧ SqT X.K H1 l (xs.map V.str) ∧ xs.length ≤ 1000 ∧ Q (.int (firsts xs).length) H1)
    (fun H0 μ H x w P Q m r c h => by
      obtain ⟨xs, ss, rfl, e, z, h⟩ := h
      obtain ⟨l, vs, rfl, hs, _, rr⟩ := res_tup r
      have := strs_rep rr e
      subst this
      exact ⟨l, ss, rfl, hs, z, c.int m h⟩) h
end

theorem passes_no {X : Cx} : Passes (L2N.CX X.prog X.w) X (fun _ _ _ => False) := fun _ _ _ _ _ _ _ c => by
  obtain ⟨_, _, _, _, _, _, _, _, _, _, _, _, z⟩ := c
  exact z.elim
section
variable {X : Cx} {k : Nat} {g C : Addr} {sp : Sp}
def rOwnI (C : Addr) (sp : Sp) : R2 := fun x y H Q => ∃ a dx fs b dy gs, x = .ref a ∧ y = .ref b ∧ H a = some (.ins C dx fs) ∧ H b = some (.ins C dy gs) ∧ sp [x, y] H Q (fun _ _ _ => False)
theorem op_ownI {fd : FuncData} {ps : List Str} (hm : Meth X.K C "__eq__" g) (F : FnOk X.prog X.w X.K X.mg X.base (L2N.CX X.prog X.w) k g fd ps sp) (hb : Binds X.K fd ps []) (hr : Room k X.A) : OpR X (compareOp .Eq) (rOwnI C sp) := by
  intro pins s σ H x y v u Q I rx ry h
  obtain ⟨a, dx, fs, b, dy, gs, rfl, rfl, ha, hb', q⟩ := h
  cases (show v = Value.ref a from rx)
  cases (show u = Value.ref b from ry)
  obtain ⟨mA, O, _⟩ := ins_get I.hok ha
  obtain ⟨mB, O', _⟩ := ins_get I.hok hb'
  obtain ⟨od, J, _⟩ := O.look
  obtain ⟨od', J', _⟩ := O'.look
  obtain ⟨m, hF⟩ := I.fr
  show wpAny _ _ (richCompare .Eq (.ref a) (.ref b)) _ _ _
  refine PySem.W.cmp_K (op := .Eq) (tb := .ref C) hr.units0 hF I.ok.mod.kin J J'.type ?_ hm.at_ hm.fn ?_
  · show ((Value.ref C == Value.ref C) || _) = true
    rw [beq_self_eq_true, Bool.true_or]
  refine wpAny_mono (run_fn (us := [.ref a, .ref b]) (vs := [.ref a, .ref b]) F hr hb .nil passes_no I (.cons rfl (.cons rfl .nil)) q) (fun w s' z => ?_) fun _ _ x => x
  obtain ⟨z', H', I', rz, qz⟩ := z
  exact SlX.cmpback rz ⟨z', H', I', rz, qz⟩
def oeqW (call : List PV → PM → Post → XPost → Prop) (n : Str) (x y : PV) (μ : PM) (P : Post) : Prop := ∃ p q fs gs, x = .ref p ∧ y = .ref q ∧ μ p = some (.ins n fs) ∧ μ q = some (.ins n gs) ∧ call [x, y] μ P (fun _ _ => False)
theorem g_oeq {n : Str} {call : List PV → PM → Post → XPost → Prop} (hm : Meth X.K (He.ga X.K n) "__eq__" g) (F : FnF X.prog X.w X.K X.mg X.base k call g) (hr : Room k X.A) : OpG X (compareOp .Eq) (oeqW call n) := by
  obtain ⟨fd, ps, F1, hb⟩ := F.ok
  refine ⟨_, op_ownI hm F1 hb hr, fun H0 μ H x y w u P Q m rx ry c h => ?_⟩
  obtain ⟨p, q, fs, gs, rfl, rfl, h1, h2, h3⟩ := h
  obtain ⟨o1, f1, dx, fs', rfl, _⟩ := m p _ h1
  obtain ⟨o2, f2, dy, gs', rfl, _⟩ := m q _ h2
  refine ⟨p, dx, fs', q, dy, gs', res_ref rx, res_ref ry, f1, f2, ?_⟩
  rw [res_ref rx, res_ref ry]
  exact ⟨[.ref p, .ref q], μ, P, fun _ _ => False, RepVs.cons rfl (RepVs.cons rfl RepVs.nil), m, h3, fun v μ' w H' r m' e p => c v μ' w H' (Res.of r) m' e p, fun _ _ _ _ _ _ _ _ z => z.elim⟩
variable {W : WX} {p q : Expr} {pos : Pos} {wa wb : PE_ → PM → Post → XPost → Prop} {gg : PV → PV → PM → Post → Prop} {op : CmpOp}
theorem c_cmpG (h : OpG X (compareOp op) gg) (ha : PE X p (T X.K W wa)) (hb : PE X q (T X.K W wb)) (hm : behindInMarks op q = false) : PE X (.Compare p [op] [q] pos) (T X.K W fun ρ μ P Y => wa ρ μ (fun x μ1 => wb ρ μ1 (fun y μ2 => gg x y μ2 P) Y) Y) := by
  obtain ⟨r, ho, hr⟩ := h
  exact (pe_cmpR ho ha hb hm).imp fun σ H Q h => seq2 (g := gg) hr h
theorem ct_cmpG (h : OpG X (compareOp op) gg) (ha : PE X p (T X.K W wa)) (hb : PE X q (T X.K W wb)) (hm : behindInMarks op q = false) : PT X (.Compare p [op] [q] pos) (TB X.K W fun ρ μ P Y => wa ρ μ (fun x μ1 => wb ρ μ1 (fun y μ2 => gg x y μ2 P) Y) Y) := by
  obtain ⟨r, ho, hr⟩ := h
  exact (pt_cmpR ho ha hb hm).imp fun σ H Q h => seq2 (g := gg) hr (tb_t h)
end
end G

namespace G
open PySem PySem.Spec PyProof.Rows L2
variable [tb : Tb]
theorem ns_some {K : PySem.W.Frag} {h : Heap} {N : Addr} {m : Str → Option Value} {n : Str} {v : Value} (X : K.In h) (hn : h.Ns N m) (e : PySem.W.nsIn K N n = some (some v)) : m n = some v := by
  unfold PySem.W.nsIn at e
  obtain ⟨o, es, ep, ho, hd, _, hf⟩ := hn
  split at e
  · rename_i q
    have ho2 := X _ _ q
    rw [ho] at ho2
    cases ho2
    cases hd
    split at e
    · rename_i he
      cases e
      rw [← hf]
      unfold nsFind findBy
      rw [← Array.find?_toList, he]
      rfl
    · split at e <;> cases e
  · cases e
theorem ne_obj {K : PySem.W.Frag} {h : Heap} {C f x : Addr} (X : K.In h) (q : neIn K C f = true) {o : Obj} (hx : h.get? x = some o) (hc : o.cls = .ref C) : h.OwnEqNoNe x C f "object" [.type "object"] := by
  unfold neIn at q
  split at q
  · rename_i dd cd sl ho
    split at q
    · rename_i C' bm k0 k1 k2 k3 n k5 hm hs
      simp only [Bool.and_eq_true, beq_iff_eq, Bool.not_eq_true'] at q
      obtain ⟨⟨⟨⟨⟨⟨rfl, hbm⟩, hdel⟩, hok⟩, heq⟩, hne⟩, hf⟩ := q
      split at hf
      · rename_i of hof
        obtain ⟨nm, bs, mro, ns, qn, hd, sn, sub, ab, col, del⟩ := cd
        dsimp only at hm hdel hok heq hne
        subst hm hdel
        have hsl : sl = #[k0, k1, k2, k3, some (.builtin n), k5] := by
          obtain ⟨l⟩ := sl
          simp only at hs
          rw [hs]
        subst hsl
        have hbm' : bm = [.type "object"] := hbm
        subst hbm'
        exact ⟨o, of, nm, qn, ns, bs, hd, sn, sub, ab, col, dd, k0, k1, k2, k3, k5, n, _, _, hx, hc, X _ _ ho, .of_isNs (PySem.W.isNs_of_in X hok), ns_some X (.of_isNs (PySem.W.isNs_of_in X hok)) heq, X _ _ hof, eq_of_beq hf, F.cmp_object.mro, F.cmp_object.eq.lookup, PySem.W.nsMap_none_of_in X hok hne⟩
      · cases hf
    · cases q
  · cases q
section
variable {X : Cx} {k : Nat} {g C : Addr} {sp : Sp}
/-- the call of a def one unit deeper -/
theorem run_fn1 {pins : List (Addr × Obj)} {σ : St} {H : Hp} {s : Shared} {Q : VK} {us : List Value} {vs : List V} {fd : FuncData} {ps : List Str} (F : FnOk X.prog X.w X.K X.mg X.base (L2N.CX X.prog X.w) k g fd ps sp) (hr : Room (k + 1) X.A) (hb : Binds X.K fd ps [])
    (I : Inv X pins σ H s) (r : Vals vs us) (h : sp vs H Q (fun _ _ _ => False)) : wpAny (model X.prog X.w) X.A.in1 (call (.ref g) us) (EP X pins σ Q) X.xe s := by
  have hl : (us ++ []).length = ps.length := by
    rw [List.append_nil, ← r.length]; exact F.len _ _ _ _ h
  have b := hb s us I.kIn hl
  rw [List.append_nil] at b
  refine wpAny_call (codeAny_mono (F.run X.A.in1 X.stack s H ⟨us, []⟩ us vs Q (fun _ _ _ => False) hr.in1 I.env0.in1 b r h) fun r s' hq => ?_)
  cases r with
  | error e => exact passes_no pins σ H s e s' I hq
  | ok fl =>
    cases fl with
    | ret u => exact I.after hq
    | next => exact False.elim hq
    | brk => exact False.elim hq
    | cont => exact False.elim hq
def rOwnN (C : Addr) (sp : Sp) : R2 := fun x y H Q => ∃ a dx fs b dy gs, x = .ref a ∧ y = .ref b ∧ H a = some (.ins C dx fs) ∧ H b = some (.ins C dy gs) ∧ sp [x, y] H (fun v H' => ∃ c, v = .bl c ∧ Q (.bl (!c)) H') (fun _ _ _ => False)
theorem op_ownN {fd : FuncData} {ps : List Str} (hm : neIn X.K C g = true) (F : FnOk X.prog X.w X.K X.mg X.base (L2N.CX X.prog X.w) k g fd ps sp) (hb : Binds X.K fd ps []) (hr : Room (k + 1) X.A) : OpR X (compareOp .NotEq) (rOwnN C sp) := by
  intro pins s σ H x y v u Q I rx ry h
  obtain ⟨a, dx, fs, b, dy, gs, rfl, rfl, ha, hb', q⟩ := h
  cases (show v = Value.ref a from rx)
  cases (show u = Value.ref b from ry)
  obtain ⟨mA, O, _⟩ := ins_get I.hok ha
  obtain ⟨mB, O', _⟩ := ins_get I.hok hb'
  obtain ⟨od, J, _⟩ := O.look
  obtain ⟨od', J', _⟩ := O'.look
  obtain ⟨hp, gg, dr, tk, os⟩ := s
  have hu := hr.un
  refine compareOp_ne_ownEq _root_.PySem.F.cmp_object (ne_obj I.kIn hm J.at_ J.cls) J'.at_ J'.cls (by omega) ?_
  refine wpAny_mono (run_fn1 (us := [.ref a, .ref b]) (vs := [.ref a, .ref b]) F hr hb I (.cons rfl (.cons rfl .nil)) q) (fun w s' z => ?_) fun _ _ x => x
  obtain ⟨z', H', I', rz, c, rfl, qz⟩ := z
  cases (show w = Value.bool c from rz)
  exact ⟨c, rfl, .bl (!c), H', I', rfl, qz⟩
def oneW (call : List PV → PM → Post → XPost → Prop) (n : Str) (x y : PV) (μ : PM) (P : Post) : Prop := ∃ p q fs gs, x = .ref p ∧ y = .ref q ∧ μ p = some (.ins n fs) ∧ μ q = some (.ins n gs) ∧ call [x, y] μ (fun v μ' => ∃ c, v = .bl c ∧ P (.bl (!c)) μ') (fun _ _ => False)
theorem g_one {n : Str} {call : List PV → PM → Post → XPost → Prop} (hm : neIn X.K (He.ga X.K n) g = true) (F : FnF X.prog X.w X.K X.mg X.base k call g) (hr : Room (k + 1) X.A) : OpG X (compareOp .NotEq) (oneW call n) := by
  obtain ⟨fd, ps, F1, hb⟩ := F.ok
  refine ⟨_, op_ownN hm F1 hb hr, fun H0 μ H x y w u P Q m rx ry c h => ?_⟩
  obtain ⟨p, q, fs, gs, rfl, rfl, h1, h2, h3⟩ := h
  obtain ⟨o1, f1, dx, fs', rfl, _⟩ := m p _ h1
  obtain ⟨o2, f2, dy, gs', rfl, _⟩ := m q _ h2
  refine ⟨p, dx, fs', q, dy, gs', res_ref rx, res_ref ry, f1, f2, ?_⟩
  rw [res_ref rx, res_ref ry]
  refine ⟨[.ref p, .ref q], μ, _, fun _ _ => False, RepVs.cons rfl (RepVs.cons rfl RepVs.nil), m, h3, fun v μ' w H' r m' e p => ?_, fun _ _ _ _ _ _ _ _ z => z.elim⟩
  obtain ⟨b, rfl, p⟩ := p
  exact ⟨b, r, c (.bl (!b)) μ' (.bl (!b)) H' rfl m' e p⟩
end
end G

namespace G
open PySem PySem.Spec PyProof.Rows L2
variable [tb : Tb]
abbrev Tup4 (h : Heap) (T : Addr) (a1 a2 a3 a4 : Value) : Prop := h.get? T = some { cls := .type "tuple", data := .seq #[a1, a2, a3, a4] }
/-- the cells lie apart -/
structure Zs4 (z TI TO i1 i2 i3 i4 : Addr) (fp1 fp2 fp3 fp4 : List Addr) : Prop where
  TIz : TI ≠ z
  TOz : TO ≠ z
  TITO : TI ≠ TO
  TIi1 : TI ≠ i1
  mem1 : i1 ∈ fp1
  zf1 : z ∉ fp1
  Tf1 : TO ∉ fp1
  TIi2 : TI ≠ i2
  mem2 : i2 ∈ fp2
  zf2 : z ∉ fp2
  Tf2 : TO ∉ fp2
  TIi3 : TI ≠ i3
  mem3 : i3 ∈ fp3
  zf3 : z ∉ fp3
  Tf3 : TO ∉ fp3
  TIi4 : TI ≠ i4
  mem4 : i4 ∈ fp4
  zf4 : z ∉ fp4
  Tf4 : TO ∉ fp4
  sep2_1 : i2 ∉ fp1
  sep3_1 : i3 ∉ fp1
  sep4_1 : i4 ∉ fp1
  sep1_2 : i1 ∉ fp2
  sep3_2 : i3 ∉ fp2
  sep4_2 : i4 ∉ fp2
  sep1_3 : i1 ∉ fp3
  sep2_3 : i2 ∉ fp3
  sep4_3 : i4 ∉ fp3
  sep1_4 : i1 ∉ fp4
  sep2_4 : i2 ∉ fp4
  sep3_4 : i3 ∉ fp4
section
variable {prog : Program} {w : World} {A : Around} {E : Value → Shared → Prop} {s : Shared} {z TI TO i1 i2 i3 i4 : Addr} {fp1 fp2 fp3 fp4 : List Addr} {n1 n2 n3 n4 i : Nat} {P1 P2 P3 P4 : Nat → Value → Prop} {St1 St2 St3 St4 : Nat → Heap → Prop} {a1 a2 a3 a4 : Value}
theorem Zs4.zi1 (D : Zs4 z TI TO i1 i2 i3 i4 fp1 fp2 fp3 fp4) : z ≠ i1 := fun e => D.zf1 (by rw [e]; exact D.mem1)
theorem Zs4.Ti1 (D : Zs4 z TI TO i1 i2 i3 i4 fp1 fp2 fp3 fp4) : TO ≠ i1 := fun e => D.Tf1 (by rw [e]; exact D.mem1)
theorem Zs4.zi2 (D : Zs4 z TI TO i1 i2 i3 i4 fp1 fp2 fp3 fp4) : z ≠ i2 := fun e => D.zf2 (by rw [e]; exact D.mem2)
theorem Zs4.Ti2 (D : Zs4 z TI TO i1 i2 i3 i4 fp1 fp2 fp3 fp4) : TO ≠ i2 := fun e => D.Tf2 (by rw [e]; exact D.mem2)
theorem Zs4.zi3 (D : Zs4 z TI TO i1 i2 i3 i4 fp1 fp2 fp3 fp4) : z ≠ i3 := fun e => D.zf3 (by rw [e]; exact D.mem3)
theorem Zs4.Ti3 (D : Zs4 z TI TO i1 i2 i3 i4 fp1 fp2 fp3 fp4) : TO ≠ i3 := fun e => D.Tf3 (by rw [e]; exact D.mem3)
theorem Zs4.zi4 (D : Zs4 z TI TO i1 i2 i3 i4 fp1 fp2 fp3 fp4) : z ≠ i4 := fun e => D.zf4 (by rw [e]; exact D.mem4)
theorem Zs4.Ti4 (D : Zs4 z TI TO i1 i2 i3 i4 fp1 fp2 fp3 fp4) : TO ≠ i4 := fun e => D.Tf4 (by rw [e]; exact D.mem4)
theorem us4 {T : Addr} {x : Value} {k : Nat} {Q : Unit → Shared → Prop} (hT : Tup4 s.heap T a1 a2 a3 a4)
    (h : ∀ h', h'.get? T = some { cls := .type "tuple", data := .seq ((#[a1, a2, a3, a4] : Array Value).setIfInBounds k x) } → Heap.SameBut T s.heap h' → Q () { s with heap := h' }) :
    wpAny (model prog w) A (updateSeq T (·.setIfInBounds k x)) Q E s := by
  refine wpAny_updateSeq hT rfl (h _ ?_ (Heap.SameBut.update ..))
  rw [Heap.get?_update_self _ hT rfl]
  simp [Obj.mapSeq]
theorem z4_item {Q : Value → Shared → Prop} (S : Zs4 z TI TO i1 i2 i3 i4 fp1 fp2 fp3 fp4) (D1 : Draws prog w A i1 fp1 n1 P1 St1) (D2 : Draws prog w A i2 fp2 n2 P2 St2) (D3 : Draws prog w A i3 fp3 n3 P3 St3) (D4 : Draws prog w A i4 fp4 n4 P4 St4)
    (hz : IsZip s.heap z TI TO .none) (hTI : Tup4 s.heap TI (.ref i1) (.ref i2) (.ref i3) (.ref i4)) (hTO : Tup4 s.heap TO a1 a2 a3 a4) (st1 : St1 i s.heap) (st2 : St2 i s.heap) (st3 : St3 i s.heap) (st4 : St4 i s.heap) (hlt1 : i < n1) (hlt2 : i < n2) (hlt3 : i < n3) (hlt4 : i < n4)
    (hQ : ∀ x1 x2 x3 x4 h' tk, P1 i x1 → P2 i x2 → P3 i x3 → P4 i x4 → IsZip h' z TI TO (rawInt s.heap.objs.size) → Tup4 h' TO x1 x2 x3 x4 → St1 (i + 1) h' → St2 (i + 1) h' → St3 (i + 1) h' → St4 (i + 1) h' → Tup4 h' s.heap.objs.size x1 x2 x3 x4 → h'.objs.size = s.heap.objs.size + 1 →
      (∀ c o, c ≠ z → c ≠ TO → c ≠ i1 → c ≠ i2 → c ≠ i3 → c ≠ i4 → s.heap.get? c = some o → h'.get? c = some o) → Q (.ref s.heap.objs.size) { s with heap := h', toks := tk }) :
    wpAny (model prog w) A (Builtin.«zip.__next__» ⟨[.ref z], []⟩) (fun fin s' => ∃ v, fin = .done (.ret v) ∧ Q v s') E s := by
  obtain ⟨hp, g, d, tk0, os⟩ := s
  show wpAny _ _ (field (.ref z) 2 >>= _) _ _ _
  refine wpAny_bind (wpAny_field hz rfl (x := .bool false) rfl ?_)
  show wpAny _ _ (field (.ref z) 3 >>= _) _ _ _
  refine wpAny_bind (wpAny_field hz rfl (x := .ref TI) rfl ?_)
  refine wpAny_bind (wpAny_seqItems hTI rfl ?_)
  show wpAny _ _ (Builtin.SmallTypes.ownedTupleIsFree (.ref z) >>= _) _ _ _
  refine wpAny_bind ?_
  unfold Builtin.SmallTypes.ownedTupleIsFree
  refine wpAny_bind (wpAny_field hz rfl (x := .none) rfl (wpAny_pure ?_))
  simp only [if_true]
  refine wpAny_bind (wpAny_rule ?_)
  refine wpAny_bind (wpAny_field hz rfl (x := .ref TO) rfl ?_)
  refine wpAny_bind (wpAny_setField_rec hz (by simp) fun g0 hz0 hs0 => ?_)
  replace hz0 : IsZip g0 z TI TO .ellipsis := hz0
  replace hs0 : Heap.SameBut z hp g0 := hs0
  refine wpAny_bind ?_
  simp only [List.zipIdx_cons, List.zipIdx_nil, List.forIn_cons, List.forIn_nil]
  refine wpAny_bind (wpAny_bind (wpAny_onRaise ?_))
  show wpAny _ _ (Builtin.SmallTypes.nextOf (.ref i1) >>= _) _ _ ⟨g0, g, d, tk0, os⟩
  refine wpAny_bind (D1.item i _ _ _ hlt1 (D1.over st1 hs0 S.zf1) fun x1 p1 tk1 hx1 sn1 hp1 => wpAny_pure ?_)
  replace hp1 : Heap.SameBut i1 g0 p1 := hp1
  have hU1 : Tup4 p1 TO a1 a2 a3 a4 := hp1.extBut _ _ S.Ti1 (hs0.extBut _ _ S.TOz hTO)
  refine wpAny_bind (wpAny_seqItems (s := ⟨p1, g, d, tk1, os⟩) hU1 rfl ?_)
  refine wpAny_bind (us4 (s := ⟨p1, g, d, tk1, os⟩) hU1 fun g1 hT1 hs1 => ?_)
  replace hT1 : Tup4 g1 TO x1 a2 a3 a4 := hT1
  replace hs1 : Heap.SameBut TO p1 g1 := hs1
  refine wpAny_bind (wpAny_letGo (wpAny_pure ?_))
  refine wpAny_bind (wpAny_bind (wpAny_onRaise ?_))
  show wpAny _ _ (Builtin.SmallTypes.nextOf (.ref i2) >>= _) _ _ ⟨g1, g, d, tk1, os⟩
  refine wpAny_bind (D2.item i _ _ _ hlt2 (D2.over (D2.over (D2.over st2 hs0 S.zf2) hp1 S.sep1_2) hs1 S.Tf2) fun x2 p2 tk2 hx2 sn2 hp2 => wpAny_pure ?_)
  replace hp2 : Heap.SameBut i2 g1 p2 := hp2
  have hU2 : Tup4 p2 TO x1 a2 a3 a4 := hp2.extBut _ _ S.Ti2 hT1
  refine wpAny_bind (wpAny_seqItems (s := ⟨p2, g, d, tk2, os⟩) hU2 rfl ?_)
  refine wpAny_bind (us4 (s := ⟨p2, g, d, tk2, os⟩) hU2 fun g2 hT2 hs2 => ?_)
  replace hT2 : Tup4 g2 TO x1 x2 a3 a4 := hT2
  replace hs2 : Heap.SameBut TO p2 g2 := hs2
  refine wpAny_bind (wpAny_letGo (wpAny_pure ?_))
  refine wpAny_bind (wpAny_bind (wpAny_onRaise ?_))
  show wpAny _ _ (Builtin.SmallTypes.nextOf (.ref i3) >>= _) _ _ ⟨g2, g, d, tk2, os⟩
  refine wpAny_bind (D3.item i _ _ _ hlt3 (D3.over (D3.over (D3.over (D3.over (D3.over st3 hs0 S.zf3) hp1 S.sep1_3) hs1 S.Tf3) hp2 S.sep2_3) hs2 S.Tf3) fun x3 p3 tk3 hx3 sn3 hp3 => wpAny_pure ?_)
  replace hp3 : Heap.SameBut i3 g2 p3 := hp3
  have hU3 : Tup4 p3 TO x1 x2 a3 a4 := hp3.extBut _ _ S.Ti3 hT2
  refine wpAny_bind (wpAny_seqItems (s := ⟨p3, g, d, tk3, os⟩) hU3 rfl ?_)
  refine wpAny_bind (us4 (s := ⟨p3, g, d, tk3, os⟩) hU3 fun g3 hT3 hs3 => ?_)
  replace hT3 : Tup4 g3 TO x1 x2 x3 a4 := hT3
  replace hs3 : Heap.SameBut TO p3 g3 := hs3
  refine wpAny_bind (wpAny_letGo (wpAny_pure ?_))
  refine wpAny_bind (wpAny_bind (wpAny_onRaise ?_))
  show wpAny _ _ (Builtin.SmallTypes.nextOf (.ref i4) >>= _) _ _ ⟨g3, g, d, tk3, os⟩
  refine wpAny_bind (D4.item i _ _ _ hlt4 (D4.over (D4.over (D4.over (D4.over (D4.over (D4.over (D4.over st4 hs0 S.zf4) hp1 S.sep1_4) hs1 S.Tf4) hp2 S.sep2_4) hs2 S.Tf4) hp3 S.sep3_4) hs3 S.Tf4) fun x4 p4 tk4 hx4 sn4 hp4 => wpAny_pure ?_)
  replace hp4 : Heap.SameBut i4 g3 p4 := hp4
  have hU4 : Tup4 p4 TO x1 x2 x3 a4 := hp4.extBut _ _ S.Ti4 hT3
  refine wpAny_bind (wpAny_seqItems (s := ⟨p4, g, d, tk4, os⟩) hU4 rfl ?_)
  refine wpAny_bind (us4 (s := ⟨p4, g, d, tk4, os⟩) hU4 fun g4 hT4 hs4 => ?_)
  replace hT4 : Tup4 g4 TO x1 x2 x3 x4 := hT4
  replace hs4 : Heap.SameBut TO p4 g4 := hs4
  refine wpAny_bind (wpAny_letGo (wpAny_pure (wpAny_pure ?_)))
  refine wpAny_bind (wpAny_seqItems (s := ⟨g4, g, d, tk4, os⟩) hT4 rfl ?_)
  refine wpAny_bind (wpAny_newTuple ?_)
  have hsz : g4.objs.size = hp.objs.size := by rw [hs4.1, hp4.1, hs3.1, hp3.1, hs2.1, hp2.1, hs1.1, hp1.1, hs0.1]
  have hzz : IsZip g4 z TI TO .ellipsis := (hs4.extBut _ _ S.TOz.symm (hp4.extBut _ _ S.zi4 (hs3.extBut _ _ S.TOz.symm (hp3.extBut _ _ S.zi3 (hs2.extBut _ _ S.TOz.symm (hp2.extBut _ _ S.zi2 (hs1.extBut _ _ S.TOz.symm (hp1.extBut _ _ S.zi1 (hz0)))))))))
  have hkk : ∀ c o, c ≠ z → c ≠ TO → c ≠ i1 → c ≠ i2 → c ≠ i3 → c ≠ i4 → hp.get? c = some o → g4.get? c = some o := fun c o cz cT c1 c2 c3 c4 e =>
    (hs4.extBut _ _ cT (hp4.extBut _ _ c4 (hs3.extBut _ _ cT (hp3.extBut _ _ c3 (hs2.extBut _ _ cT (hp2.extBut _ _ c2 (hs1.extBut _ _ cT (hp1.extBut _ _ c1 (hs0.extBut _ _ cz e)))))))))
  have hj1 : St1 (i + 1) g4 := (D1.over (D1.over (D1.over (D1.over (D1.over (D1.over (D1.over sn1 hs1 S.Tf1) hp2 S.sep2_1) hs2 S.Tf1) hp3 S.sep3_1) hs3 S.Tf1) hp4 S.sep4_1) hs4 S.Tf1)
  have hj2 : St2 (i + 1) g4 := (D2.over (D2.over (D2.over (D2.over (D2.over sn2 hs2 S.Tf2) hp3 S.sep3_2) hs3 S.Tf2) hp4 S.sep4_2) hs4 S.Tf2)
  have hj3 : St3 (i + 1) g4 := (D3.over (D3.over (D3.over sn3 hs3 S.Tf3) hp4 S.sep4_3) hs4 S.Tf3)
  have hj4 : St4 (i + 1) g4 := (D4.over sn4 hs4 S.Tf4)
  have hzlt : z < g4.objs.size := Heap.lt_size hzz
  show wpAny _ _ (Builtin.SmallTypes.ownedTupleHandOut (.ref z) (.ref g4.objs.size) >>= _) _ _ ⟨g4.push { cls := .type "tuple", data := .seq #[x1, x2, x3, x4] }, g, d, tk4, os⟩
  refine wpAny_bind ?_
  unfold Builtin.SmallTypes.ownedTupleHandOut
  have hz₆ : IsZip (g4.push { cls := .type "tuple", data := .seq #[x1, x2, x3, x4] }) z TI TO .ellipsis := Heap.get?_push_of_some _ hzz
  refine wpAny_bind (wpAny_setField_rec hz₆ (by simp) fun h₇ hz₇ hs₇ => ?_)
  replace hz₇ : IsZip h₇ z TI TO (rawInt g4.objs.size) := hz₇
  refine wpAny_setField_rec hz₇ (by simp) fun h₈ hz₈ hs₈ => ?_
  replace hz₈ : IsZip h₈ z TI TO (rawInt g4.objs.size) := hz₈
  replace hs₇ : Heap.SameBut z (g4.push { cls := .type "tuple", data := .seq #[x1, x2, x3, x4] }) h₇ := hs₇
  replace hs₈ : Heap.SameBut z h₇ h₈ := hs₈
  have up : ∀ c o, c ≠ z → g4.get? c = some o → h₈.get? c = some o := fun c o c1 e => hs₈.extBut _ _ c1 (hs₇.extBut _ _ c1 (Heap.get?_push_of_some _ e))
  have hT₈ : Tup4 h₈ g4.objs.size x1 x2 x3 x4 := hs₈.extBut _ _ (Nat.ne_of_gt hzlt) (hs₇.extBut _ _ (Nat.ne_of_gt hzlt) (Heap.get?_push_size _ rfl))
  have hz8 : h₈.objs.size = g4.objs.size + 1 := by rw [hs₈.1, hs₇.1, Heap.size_push]
  rw [hsz] at hz₈ hT₈ hz8
  refine wpAny_pure ⟨_, rfl, ?_⟩
  show Q (.ref g4.objs.size) ⟨h₈, g, d, tk4, os⟩
  rw [hsz]
  exact hQ x1 x2 x3 x4 h₈ tk4 hx1 hx2 hx3 hx4 hz₈ (up _ _ S.TOz hT4) (D1.frame _ _ _ hj1 fun b hb o e => up b o (fun q => S.zf1 (q ▸ hb)) e) (D2.frame _ _ _ hj2 fun b hb o e => up b o (fun q => S.zf2 (q ▸ hb)) e) (D3.frame _ _ _ hj3 fun b hb o e => up b o (fun q => S.zf3 (q ▸ hb)) e) (D4.frame _ _ _ hj4 fun b hb o e => up b o (fun q => S.zf4 (q ▸ hb)) e) hT₈ hz8 fun c o cz cT c1 c2 c3 c4 e => up c o cz (hkk c o cz cT c1 c2 c3 c4 e)
theorem z4_end {Q : Fin → Shared → Prop} (S : Zs4 z TI TO i1 i2 i3 i4 fp1 fp2 fp3 fp4) (D1 : Draws prog w A i1 fp1 n1 P1 St1) (D2 : Draws prog w A i2 fp2 n2 P2 St2) (D3 : Draws prog w A i3 fp3 n3 P3 St3) (D4 : Draws prog w A i4 fp4 n4 P4 St4)
    (hz : IsZip s.heap z TI TO .none) (hTI : Tup4 s.heap TI (.ref i1) (.ref i2) (.ref i3) (.ref i4)) (hTO : Tup4 s.heap TO a1 a2 a3 a4) (st1 : St1 i s.heap) (st2 : St2 i s.heap) (st3 : St3 i s.heap) (st4 : St4 i s.heap) (hle1 : i ≤ n1) (hle2 : i ≤ n2) (hle3 : i ≤ n3) (hle4 : i ≤ n4) (hend : i = n1 ∨ i = n2 ∨ i = n3 ∨ i = n4)
    (hE : ∀ h' tk e, (∀ c o, c ≠ z → c ≠ TO → c ≠ i1 → c ≠ i2 → c ≠ i3 → c ≠ i4 → s.heap.get? c = some o → h'.get? c = some o) → (∃ o, h'.get? e = some o ∧ o.cls = .type "StopIteration") → E (.ref e) { s with heap := h', toks := tk }) :
    wpAny (model prog w) A (Builtin.«zip.__next__» ⟨[.ref z], []⟩) Q E s := by
  obtain ⟨hp, g, d, tk0, os⟩ := s
  show wpAny _ _ (field (.ref z) 2 >>= _) _ _ _
  refine wpAny_bind (wpAny_field hz rfl (x := .bool false) rfl ?_)
  show wpAny _ _ (field (.ref z) 3 >>= _) _ _ _
  refine wpAny_bind (wpAny_field hz rfl (x := .ref TI) rfl ?_)
  refine wpAny_bind (wpAny_seqItems hTI rfl ?_)
  show wpAny _ _ (Builtin.SmallTypes.ownedTupleIsFree (.ref z) >>= _) _ _ _
  refine wpAny_bind ?_
  unfold Builtin.SmallTypes.ownedTupleIsFree
  refine wpAny_bind (wpAny_field hz rfl (x := .none) rfl (wpAny_pure ?_))
  simp only [if_true]
  refine wpAny_bind (wpAny_rule ?_)
  refine wpAny_bind (wpAny_field hz rfl (x := .ref TO) rfl ?_)
  refine wpAny_bind (wpAny_setField_rec hz (by simp) fun g0 hz0 hs0 => ?_)
  replace hz0 : IsZip g0 z TI TO .ellipsis := hz0
  replace hs0 : Heap.SameBut z hp g0 := hs0
  refine wpAny_bind ?_
  simp only [List.zipIdx_cons, List.zipIdx_nil, List.forIn_cons, List.forIn_nil]
  refine wpAny_bind (wpAny_bind (wpAny_onRaise ?_))
  show wpAny _ _ (Builtin.SmallTypes.nextOf (.ref i1) >>= _) _ _ ⟨g0, g, d, tk0, os⟩
  by_cases hlt1 : i < n1
  · refine wpAny_bind (D1.item i _ _ _ hlt1 (D1.over st1 hs0 S.zf1) fun x1 p1 tk1 hx1 sn1 hp1 => wpAny_pure ?_)
    replace hp1 : Heap.SameBut i1 g0 p1 := hp1
    have hU1 : Tup4 p1 TO a1 a2 a3 a4 := hp1.extBut _ _ S.Ti1 (hs0.extBut _ _ S.TOz hTO)
    refine wpAny_bind (wpAny_seqItems (s := ⟨p1, g, d, tk1, os⟩) hU1 rfl ?_)
    refine wpAny_bind (us4 (s := ⟨p1, g, d, tk1, os⟩) hU1 fun g1 hT1 hs1 => ?_)
    replace hT1 : Tup4 g1 TO x1 a2 a3 a4 := hT1
    replace hs1 : Heap.SameBut TO p1 g1 := hs1
    refine wpAny_bind (wpAny_letGo (wpAny_pure ?_))
    refine wpAny_bind (wpAny_bind (wpAny_onRaise ?_))
    show wpAny _ _ (Builtin.SmallTypes.nextOf (.ref i2) >>= _) _ _ ⟨g1, g, d, tk1, os⟩
    by_cases hlt2 : i < n2
    · refine wpAny_bind (D2.item i _ _ _ hlt2 (D2.over (D2.over (D2.over st2 hs0 S.zf2) hp1 S.sep1_2) hs1 S.Tf2) fun x2 p2 tk2 hx2 sn2 hp2 => wpAny_pure ?_)
      replace hp2 : Heap.SameBut i2 g1 p2 := hp2
      have hU2 : Tup4 p2 TO x1 a2 a3 a4 := hp2.extBut _ _ S.Ti2 hT1
      refine wpAny_bind (wpAny_seqItems (s := ⟨p2, g, d, tk2, os⟩) hU2 rfl ?_)
      refine wpAny_bind (us4 (s := ⟨p2, g, d, tk2, os⟩) hU2 fun g2 hT2 hs2 => ?_)
      replace hT2 : Tup4 g2 TO x1 x2 a3 a4 := hT2
      replace hs2 : Heap.SameBut TO p2 g2 := hs2
      refine wpAny_bind (wpAny_letGo (wpAny_pure ?_))
      refine wpAny_bind (wpAny_bind (wpAny_onRaise ?_))
      show wpAny _ _ (Builtin.SmallTypes.nextOf (.ref i3) >>= _) _ _ ⟨g2, g, d, tk2, os⟩
      by_cases hlt3 : i < n3
      · refine wpAny_bind (D3.item i _ _ _ hlt3 (D3.over (D3.over (D3.over (D3.over (D3.over st3 hs0 S.zf3) hp1 S.sep1_3) hs1 S.Tf3) hp2 S.sep2_3) hs2 S.Tf3) fun x3 p3 tk3 hx3 sn3 hp3 => wpAny_pure ?_)
        replace hp3 : Heap.SameBut i3 g2 p3 := hp3
        have hU3 : Tup4 p3 TO x1 x2 a3 a4 := hp3.extBut _ _ S.Ti3 hT2
        refine wpAny_bind (wpAny_seqItems (s := ⟨p3, g, d, tk3, os⟩) hU3 rfl ?_)
        refine wpAny_bind (us4 (s := ⟨p3, g, d, tk3, os⟩) hU3 fun g3 hT3 hs3 => ?_)
        replace hT3 : Tup4 g3 TO x1 x2 x3 a4 := hT3
        replace hs3 : Heap.SameBut TO p3 g3 := hs3
        refine wpAny_bind (wpAny_letGo (wpAny_pure ?_))
        refine wpAny_bind (wpAny_bind (wpAny_onRaise ?_))
        show wpAny _ _ (Builtin.SmallTypes.nextOf (.ref i4) >>= _) _ _ ⟨g3, g, d, tk3, os⟩
        have hi4 : i = n4 := by omega
        refine wpAny_bind (D4.done ⟨g3, g, d, tk3, os⟩ _ _ (by rw [← hi4]; exact (D4.over (D4.over (D4.over (D4.over (D4.over (D4.over (D4.over st4 hs0 S.zf4) hp1 S.sep1_4) hs1 S.Tf4) hp2 S.sep2_4) hs2 S.Tf4) hp3 S.sep3_4) hs3 S.Tf4)) fun q e hq he => ?_)
        replace hq : Heap.ExtBut i4 g3 q := hq
        obtain ⟨oe, hoe, hce⟩ := he
        replace hoe : q.get? e = some oe := hoe
        have hzq : IsZip q z TI TO .ellipsis := hq _ _ S.zi4 (hs3.extBut _ _ S.TOz.symm (hp3.extBut _ _ S.zi3 (hs2.extBut _ _ S.TOz.symm (hp2.extBut _ _ S.zi2 (hs1.extBut _ _ S.TOz.symm (hp1.extBut _ _ S.zi1 (hz0)))))))
        have hez : e ≠ z := fun x => by subst x; rw [hzq] at hoe; cases hoe; simp at hce
        refine wpAny_setField_rec (s := ⟨q, g, d, tk3, os⟩) hzq (by simp) fun q' _ hq' => ?_
        replace hq' : Heap.SameBut z q q' := hq'
        exact hE q' tk3 e (fun c o cz cT c1 c2 c3 c4 x => hq'.extBut _ _ cz (hq _ _ c4 (hs3.extBut _ _ cT (hp3.extBut _ _ c3 (hs2.extBut _ _ cT (hp2.extBut _ _ c2 (hs1.extBut _ _ cT (hp1.extBut _ _ c1 (hs0.extBut _ _ cz x))))))))) ⟨oe, hq'.extBut _ _ hez hoe, hce⟩
      · have hi3 : i = n3 := by omega
        refine wpAny_bind (D3.done ⟨g2, g, d, tk2, os⟩ _ _ (by rw [← hi3]; exact (D3.over (D3.over (D3.over (D3.over (D3.over st3 hs0 S.zf3) hp1 S.sep1_3) hs1 S.Tf3) hp2 S.sep2_3) hs2 S.Tf3)) fun q e hq he => ?_)
        replace hq : Heap.ExtBut i3 g2 q := hq
        obtain ⟨oe, hoe, hce⟩ := he
        replace hoe : q.get? e = some oe := hoe
        have hzq : IsZip q z TI TO .ellipsis := hq _ _ S.zi3 (hs2.extBut _ _ S.TOz.symm (hp2.extBut _ _ S.zi2 (hs1.extBut _ _ S.TOz.symm (hp1.extBut _ _ S.zi1 (hz0)))))
        have hez : e ≠ z := fun x => by subst x; rw [hzq] at hoe; cases hoe; simp at hce
        refine wpAny_setField_rec (s := ⟨q, g, d, tk2, os⟩) hzq (by simp) fun q' _ hq' => ?_
        replace hq' : Heap.SameBut z q q' := hq'
        exact hE q' tk2 e (fun c o cz cT c1 c2 c3 c4 x => hq'.extBut _ _ cz (hq _ _ c3 (hs2.extBut _ _ cT (hp2.extBut _ _ c2 (hs1.extBut _ _ cT (hp1.extBut _ _ c1 (hs0.extBut _ _ cz x))))))) ⟨oe, hq'.extBut _ _ hez hoe, hce⟩
    · have hi2 : i = n2 := by omega
      refine wpAny_bind (D2.done ⟨g1, g, d, tk1, os⟩ _ _ (by rw [← hi2]; exact (D2.over (D2.over (D2.over st2 hs0 S.zf2) hp1 S.sep1_2) hs1 S.Tf2)) fun q e hq he => ?_)
      replace hq : Heap.ExtBut i2 g1 q := hq
      obtain ⟨oe, hoe, hce⟩ := he
      replace hoe : q.get? e = some oe := hoe
      have hzq : IsZip q z TI TO .ellipsis := hq _ _ S.zi2 (hs1.extBut _ _ S.TOz.symm (hp1.extBut _ _ S.zi1 (hz0)))
      have hez : e ≠ z := fun x => by subst x; rw [hzq] at hoe; cases hoe; simp at hce
      refine wpAny_setField_rec (s := ⟨q, g, d, tk1, os⟩) hzq (by simp) fun q' _ hq' => ?_
      replace hq' : Heap.SameBut z q q' := hq'
      exact hE q' tk1 e (fun c o cz cT c1 c2 c3 c4 x => hq'.extBut _ _ cz (hq _ _ c2 (hs1.extBut _ _ cT (hp1.extBut _ _ c1 (hs0.extBut _ _ cz x))))) ⟨oe, hq'.extBut _ _ hez hoe, hce⟩
  · have hi1 : i = n1 := by omega
    refine wpAny_bind (D1.done ⟨g0, g, d, tk0, os⟩ _ _ (by rw [← hi1]; exact (D1.over st1 hs0 S.zf1)) fun q e hq he => ?_)
    replace hq : Heap.ExtBut i1 g0 q := hq
    obtain ⟨oe, hoe, hce⟩ := he
    replace hoe : q.get? e = some oe := hoe
    have hzq : IsZip q z TI TO .ellipsis := hq _ _ S.zi1 (hz0)
    have hez : e ≠ z := fun x => by subst x; rw [hzq] at hoe; cases hoe; simp at hce
    refine wpAny_setField_rec (s := ⟨q, g, d, tk0, os⟩) hzq (by simp) fun q' _ hq' => ?_
    replace hq' : Heap.SameBut z q q' := hq'
    exact hE q' tk0 e (fun c o cz cT c1 c2 c3 c4 x => hq'.extBut _ _ cz (hq _ _ c1 (hs0.extBut _ _ cz x))) ⟨oe, hq'.extBut _ _ hez hoe, hce⟩
theorem nx4_item {Q : Option Value → Shared → Prop} (S : Zs4 z TI TO i1 i2 i3 i4 fp1 fp2 fp3 fp4) (D1 : Draws prog w A.in1 i1 fp1 n1 P1 St1) (D2 : Draws prog w A.in1 i2 fp2 n2 P2 St2) (D3 : Draws prog w A.in1 i3 fp3 n3 P3 St3) (D4 : Draws prog w A.in1 i4 fp4 n4 P4 St4)
    (hz : IsZip s.heap z TI TO .none) (hTI : Tup4 s.heap TI (.ref i1) (.ref i2) (.ref i3) (.ref i4)) (hTO : Tup4 s.heap TO a1 a2 a3 a4) (st1 : St1 i s.heap) (st2 : St2 i s.heap) (st3 : St3 i s.heap) (st4 : St4 i s.heap) (hlt1 : i < n1) (hlt2 : i < n2) (hlt3 : i < n3) (hlt4 : i < n4)
    (hQ : ∀ x1 x2 x3 x4 h' tk, P1 i x1 → P2 i x2 → P3 i x3 → P4 i x4 → IsZip h' z TI TO (rawInt s.heap.objs.size) → Tup4 h' TO x1 x2 x3 x4 → St1 (i + 1) h' → St2 (i + 1) h' → St3 (i + 1) h' → St4 (i + 1) h' → Tup4 h' s.heap.objs.size x1 x2 x3 x4 → h'.objs.size = s.heap.objs.size + 1 →
      (∀ c o, c ≠ z → c ≠ TO → c ≠ i1 → c ≠ i2 → c ≠ i3 → c ≠ i4 → s.heap.get? c = some o → h'.get? c = some o) → Q (some (.ref s.heap.objs.size)) { s with heap := h', toks := tk }) :
    wpAny (model prog w) A (pyNext (.ref z)) Q E s := by
  have hT : s.TypeIs (.ref z) "zip" := ⟨_, hz, rfl⟩
  unfold pyNext
  exact wpAny_bind (wpAny_attempt (wpAny_callSpecial?_slot (name := Str.ofString "__next__") hT F.slot_zip_next
    (wpAny_call_entry F.slot_zip_next hT F.entry_zip_next
      (z4_item S D1 D2 D3 D4 hz hTI hTO st1 st2 st3 st4 hlt1 hlt2 hlt3 hlt4 fun x1 x2 x3 x4 h' tk y1 y2 y3 y4 b1 b2 d1 d2 d3 d4 b5 b6 b7 => wpAny_pure (hQ x1 x2 x3 x4 h' tk y1 y2 y3 y4 b1 b2 d1 d2 d3 d4 b5 b6 b7)) (F.args_zip_next_1 _))))
theorem nx4_end {Q : Option Value → Shared → Prop} (S : Zs4 z TI TO i1 i2 i3 i4 fp1 fp2 fp3 fp4) (D1 : Draws prog w A.in1 i1 fp1 n1 P1 St1) (D2 : Draws prog w A.in1 i2 fp2 n2 P2 St2) (D3 : Draws prog w A.in1 i3 fp3 n3 P3 St3) (D4 : Draws prog w A.in1 i4 fp4 n4 P4 St4)
    (hz : IsZip s.heap z TI TO .none) (hTI : Tup4 s.heap TI (.ref i1) (.ref i2) (.ref i3) (.ref i4)) (hTO : Tup4 s.heap TO a1 a2 a3 a4) (st1 : St1 i s.heap) (st2 : St2 i s.heap) (st3 : St3 i s.heap) (st4 : St4 i s.heap) (hle1 : i ≤ n1) (hle2 : i ≤ n2) (hle3 : i ≤ n3) (hle4 : i ≤ n4) (hend : i = n1 ∨ i = n2 ∨ i = n3 ∨ i = n4)
    (hQ : ∀ h' tk, (∀ c o, c ≠ z → c ≠ TO → c ≠ i1 → c ≠ i2 → c ≠ i3 → c ≠ i4 → s.heap.get? c = some o → h'.get? c = some o) → Q none { s with heap := h', toks := tk }) : wpAny (model prog w) A (pyNext (.ref z)) Q E s := by
  have hT : s.TypeIs (.ref z) "zip" := ⟨_, hz, rfl⟩
  unfold pyNext
  refine wpAny_bind (wpAny_attempt (wpAny_callSpecial?_slot (name := Str.ofString "__next__") hT F.slot_zip_next
    (wpAny_call_entry F.slot_zip_next hT F.entry_zip_next (z4_end S D1 D2 D3 D4 hz hTI hTO st1 st2 st3 st4 hle1 hle2 hle3 hle4 hend fun h' tk e hk he => ?_) (F.args_zip_next_1 _))))
  obtain ⟨o, ho, hc⟩ := he
  refine wpAny_bind (wpAny_isInstance (T := "StopIteration") (b := true) ⟨o, ho, hc⟩ isSubtype_stop ?_)
  exact wpAny_pure (hQ _ _ hk)
end
abbrev yT4 (h : Heap) (o1 o2 o3 o4 : Obj) : Heap := ((((h.push o1).push o2).push o3).push o4).push { cls := .type "tuple", data := .seq #[.ref h.objs.size, .ref (h.push o1).objs.size, .ref ((h.push o1).push o2).objs.size, .ref (((h.push o1).push o2).push o3).objs.size] }
abbrev yO4 (h : Heap) (o1 o2 o3 o4 : Obj) : Heap := (yT4 h o1 o2 o3 o4).push { cls := .type "tuple", data := .seq #[.none, .none, .none, .none] }
abbrev yZ4 (h : Heap) (o1 o2 o3 o4 : Obj) : Heap := (yO4 h o1 o2 o3 o4).push { cls := .type "zip", data := .fields #[.none, .bool false, .bool false, .ref ((((h.push o1).push o2).push o3).push o4).objs.size, .ref (yT4 h o1 o2 o3 o4).objs.size] }
theorem y4_call (v1 v2 v3 v4 : Value) : checkTypeCall "zip" ⟨[v1, v2, v3, v4], []⟩ = pure () := by kernel_rfl
theorem y4_new (v1 v2 v3 v4 : Value) : checkBuiltinCall "zip.__new__" ⟨[.type "zip", v1, v2, v3, v4], []⟩ = pure () := by kernel_rfl
theorem y4_init (obj v1 v2 v3 v4 : Value) : argsOk "object.__init__" ⟨[obj, v1, v2, v3, v4], []⟩ := by unfold argsOk; kernel_rfl
theorem y4_meets {v1 v2 v3 v4 : Value} {o1 o2 o3 o4 : Obj} {H1 H2 H3 H4 : Heap → Prop} (B1 : Begins v1 o1 H1) (B2 : Begins v2 o2 H2) (B3 : Begins v3 o3 H3) (B4 : Begins v4 o4 H4) :
    Meets (Builtin.«zip.__new__» ⟨[.type "zip", v1, v2, v3, v4], []⟩) (fun _ R s => (H1 s.heap ∧ H2 s.heap ∧ H3 s.heap ∧ H4 s.heap) ∧
      R (.ok (.ret (.ref (yO4 s.heap o1 o2 o3 o4).objs.size))) { s with heap := yZ4 s.heap o1 o2 o3 o4 }) :=
  .of_wp fun prog w A R s h => by
    obtain ⟨hp, g, d, tk, os⟩ := s; obtain ⟨⟨h1, h2, h3, h4⟩, h⟩ := h
    have hsub := sub_zip
    have q1 : ∀ {A' : Around} {E : Value → Shared → Prop} {Q : Value → Shared → Prop}, Q (.ref hp.objs.size) ⟨(hp.push o1), g, d, tk, os⟩ → wpAny (model prog w) A' (pyIter v1) Q E ⟨hp, g, d, tk, os⟩ :=
      fun q => B1.iter prog w _ _ ⟨hp, g, d, tk, os⟩ _ (B1.keeps _ _ h1 fun b o' e => e) q
    have q2 : ∀ {A' : Around} {E : Value → Shared → Prop} {Q : Value → Shared → Prop}, Q (.ref (hp.push o1).objs.size) ⟨((hp.push o1).push o2), g, d, tk, os⟩ → wpAny (model prog w) A' (pyIter v2) Q E ⟨(hp.push o1), g, d, tk, os⟩ :=
      fun q => B2.iter prog w _ _ ⟨(hp.push o1), g, d, tk, os⟩ _ (B2.keeps _ _ h2 fun b o' e => (Heap.get?_push_of_some _ e)) q
    have q3 : ∀ {A' : Around} {E : Value → Shared → Prop} {Q : Value → Shared → Prop}, Q (.ref ((hp.push o1).push o2).objs.size) ⟨(((hp.push o1).push o2).push o3), g, d, tk, os⟩ → wpAny (model prog w) A' (pyIter v3) Q E ⟨((hp.push o1).push o2), g, d, tk, os⟩ :=
      fun q => B3.iter prog w _ _ ⟨((hp.push o1).push o2), g, d, tk, os⟩ _ (B3.keeps _ _ h3 fun b o' e => (Heap.get?_push_of_some _ (Heap.get?_push_of_some _ e))) q
    have q4 : ∀ {A' : Around} {E : Value → Shared → Prop} {Q : Value → Shared → Prop}, Q (.ref (((hp.push o1).push o2).push o3).objs.size) ⟨((((hp.push o1).push o2).push o3).push o4), g, d, tk, os⟩ → wpAny (model prog w) A' (pyIter v4) Q E ⟨(((hp.push o1).push o2).push o3), g, d, tk, os⟩ :=
      fun q => B4.iter prog w _ _ ⟨(((hp.push o1).push o2).push o3), g, d, tk, os⟩ _ (B4.keeps _ _ h4 fun b o' e => (Heap.get?_push_of_some _ (Heap.get?_push_of_some _ (Heap.get?_push_of_some _ e)))) q
    wp_walk using q1, q2, q3, q4
    exact ⟨_, rfl, h⟩
section
variable {prog : Program} {w : World} {A : Around} {E : Value → Shared → Prop} {s : Shared}
theorem y4_begins {v1 v2 v3 v4 : Value} {o1 o2 o3 o4 : Obj} {H1 H2 H3 H4 : Heap → Prop} {Q : Value → Shared → Prop} (B1 : Begins v1 o1 H1) (B2 : Begins v2 o2 H2) (B3 : Begins v3 o3 H3) (B4 : Begins v4 o4 H4) (h1 : H1 s.heap) (h2 : H2 s.heap) (h3 : H3 s.heap) (h4 : H4 s.heap)
    (h : ∀ h', IsZip h' (s.heap.objs.size + 6) (s.heap.objs.size + 4) (s.heap.objs.size + 5) .none → Tup4 h' (s.heap.objs.size + 4) (.ref s.heap.objs.size) (.ref (s.heap.objs.size + 1)) (.ref (s.heap.objs.size + 2)) (.ref (s.heap.objs.size + 3)) →
      Tup4 h' (s.heap.objs.size + 5) .none .none .none .none → h'.get? s.heap.objs.size = some o1 → h'.get? (s.heap.objs.size + 1) = some o2 → h'.get? (s.heap.objs.size + 2) = some o3 → h'.get? (s.heap.objs.size + 3) = some o4 → h'.objs.size = s.heap.objs.size + 7 →
      (∀ c o, s.heap.get? c = some o → h'.get? c = some o) → Q (.ref (s.heap.objs.size + 6)) { s with heap := h' }) :
    wpAny (model prog w) A (call (.type "zip") [v1, v2, v3, v4]) Q E s := by
  refine callType_new F.called_zip (by decide) (y4_call _ _ _ _) (y4_new _ _ _ _) (fun obj => y4_init obj _ _ _ _) F.entry_zip_new
    (y4_meets B1 B2 B3 B4) ⟨⟨h1, h2, h3, h4⟩, ?_⟩
  have z1 : (s.heap.push o1).objs.size = s.heap.objs.size + 1 := by rw [Heap.size_push]
  have z2 : ((s.heap.push o1).push o2).objs.size = s.heap.objs.size + 2 := by rw [Heap.size_push, z1]
  have z3 : (((s.heap.push o1).push o2).push o3).objs.size = s.heap.objs.size + 3 := by rw [Heap.size_push, z2]
  have z4 : ((((s.heap.push o1).push o2).push o3).push o4).objs.size = s.heap.objs.size + 4 := by rw [Heap.size_push, z3]
  have zT : (yT4 s.heap o1 o2 o3 o4).objs.size = s.heap.objs.size + 5 := by rw [Heap.size_push, z4]
  have zO : (yO4 s.heap o1 o2 o3 o4).objs.size = s.heap.objs.size + 6 := by rw [Heap.size_push, zT]
  have zZ : (yZ4 s.heap o1 o2 o3 o4).objs.size = s.heap.objs.size + 7 := by rw [Heap.size_push, zO]
  have gZ : (yZ4 s.heap o1 o2 o3 o4).get? (yO4 s.heap o1 o2 o3 o4).objs.size = some { cls := .type "zip", data := .fields #[.none, .bool false, .bool false, .ref ((((s.heap.push o1).push o2).push o3).push o4).objs.size, .ref (yT4 s.heap o1 o2 o3 o4).objs.size] } := Heap.get?_push_size _ rfl
  have gO : (yZ4 s.heap o1 o2 o3 o4).get? (yT4 s.heap o1 o2 o3 o4).objs.size = some { cls := .type "tuple", data := .seq #[.none, .none, .none, .none] } := Heap.get?_push_of_some _ (Heap.get?_push_size _ rfl)
  have gT : (yZ4 s.heap o1 o2 o3 o4).get? ((((s.heap.push o1).push o2).push o3).push o4).objs.size = some { cls := .type "tuple", data := .seq #[.ref s.heap.objs.size, .ref (s.heap.push o1).objs.size, .ref ((s.heap.push o1).push o2).objs.size, .ref (((s.heap.push o1).push o2).push o3).objs.size] } := Heap.get?_push_of_some _ (Heap.get?_push_of_some _ (Heap.get?_push_size _ rfl))
  have g1 : (yZ4 s.heap o1 o2 o3 o4).get? s.heap.objs.size = some o1 := (Heap.get?_push_of_some _ (Heap.get?_push_of_some _ (Heap.get?_push_of_some _ (Heap.get?_push_of_some _ (Heap.get?_push_of_some _ (Heap.get?_push_of_some _ (Heap.get?_push_size _ B1.free)))))))
  have g2 : (yZ4 s.heap o1 o2 o3 o4).get? (s.heap.push o1).objs.size = some o2 := (Heap.get?_push_of_some _ (Heap.get?_push_of_some _ (Heap.get?_push_of_some _ (Heap.get?_push_of_some _ (Heap.get?_push_of_some _ (Heap.get?_push_size _ B2.free))))))
  have g3 : (yZ4 s.heap o1 o2 o3 o4).get? ((s.heap.push o1).push o2).objs.size = some o3 := (Heap.get?_push_of_some _ (Heap.get?_push_of_some _ (Heap.get?_push_of_some _ (Heap.get?_push_of_some _ (Heap.get?_push_size _ B3.free)))))
  have g4 : (yZ4 s.heap o1 o2 o3 o4).get? (((s.heap.push o1).push o2).push o3).objs.size = some o4 := (Heap.get?_push_of_some _ (Heap.get?_push_of_some _ (Heap.get?_push_of_some _ (Heap.get?_push_size _ B4.free))))
  rw [zO, zT, z4] at gZ
  rw [zT] at gO
  rw [z4, z3, z2, z1] at gT
  rw [z1] at g2
  rw [z2] at g3
  rw [z3] at g4
  show _ ∧ _
  rw [zO]
  exact ⟨⟨_, gZ, rfl⟩, h _ gZ gT gO g1 g2 g3 g4 zZ fun c o e => (Heap.get?_push_of_some _ (Heap.get?_push_of_some _ (Heap.get?_push_of_some _ (Heap.get?_push_of_some _ (Heap.get?_push_of_some _ (Heap.get?_push_of_some _ (Heap.get?_push_of_some _ e)))))))⟩
end
def J4 (K : PySem.W.Frag) (k1 k2 k3 k4 : SK) : It :=
  ⟨fun i H => ∃ us1 us2 us3 us4, k1.Is K H us1 ∧ k2.Is K H us2 ∧ k3.Is K H us3 ∧ k4.Is K H us4 ∧ i < (min us1.length (min us2.length (min us3.length us4.length))),
    fun i H v H' => ∃ T x1 x2 x3 x4, v = .ref T ∧ H T = none ∧ H' = upd H T (.tup [x1, x2, x3, x4]) ∧ (∀ vs, k1.Is K H vs → vs[i]? = some x1) ∧ (∀ vs, k2.Is K H vs → vs[i]? = some x2) ∧ (∀ vs, k3.Is K H vs → vs[i]? = some x3) ∧ (∀ vs, k4.Is K H vs → vs[i]? = some x4),
    fun i H => ∃ us1 us2 us3 us4, k1.Is K H us1 ∧ k2.Is K H us2 ∧ k3.Is K H us3 ∧ k4.Is K H us4 ∧ (min us1.length (min us2.length (min us3.length us4.length))) = i⟩
structure Ap4 (z TI TO i1 i2 i3 i4 : Addr) : Prop where
  TIz : TI ≠ z
  TOz : TO ≠ z
  TITO : TI ≠ TO
  TIi1 : TI ≠ i1
  z1 : z ≠ i1
  T1 : TO ≠ i1
  TIi2 : TI ≠ i2
  z2 : z ≠ i2
  T2 : TO ≠ i2
  TIi3 : TI ≠ i3
  z3 : z ≠ i3
  T3 : TO ≠ i3
  TIi4 : TI ≠ i4
  z4 : z ≠ i4
  T4 : TO ≠ i4
  i2_1 : i2 ≠ i1
  i3_1 : i3 ≠ i1
  i4_1 : i4 ≠ i1
  i1_2 : i1 ≠ i2
  i3_2 : i3 ≠ i2
  i4_2 : i4 ≠ i2
  i1_3 : i1 ≠ i3
  i2_3 : i2 ≠ i3
  i4_3 : i4 ≠ i3
  i1_4 : i1 ≠ i4
  i2_4 : i2 ≠ i4
  i3_4 : i3 ≠ i4
theorem turn_z4 {P : Program} {w : World} {K : PySem.W.Frag} {elts : List Expr} {kk : Nat} {tpos : Pos} (k1 k2 k3 k4 : SK) {z TI TO i1 i2 i3 i4 : Addr} (D : Ap4 z TI TO i1 i2 i3 i4) :
    Turn P w K (.Tuple elts kk tpos) (J4 K k1 k2 k3 k4) [z, TI, TO, i1, i2, i3, i4] z (fun i h => IsZip h z TI TO .none ∧ Tup4 h TI (.ref i1) (.ref i2) (.ref i3) (.ref i4) ∧ (∃ a1 a2 a3 a4, Tup4 h TO a1 a2 a3 a4) ∧ k1.It i1 i h ∧ k2.It i2 i h ∧ k3.It i3 i h ∧ k4.It i4 i h) where
  mem := by simp
  obj := fun i h st c hc => by
    obtain ⟨hz, hTI, ⟨a1, a2, a3, a4, hTO⟩, q1, q2, q3, q4⟩ := st
    obtain ⟨o1, _, _, e1, _, d1⟩ := q1.get
    obtain ⟨o2, _, _, e2, _, d2⟩ := q2.get
    obtain ⟨o3, _, _, e3, _, d3⟩ := q3.get
    obtain ⟨o4, _, _, e4, _, d4⟩ := q4.get
    have e' : c = z ∨ c = TI ∨ c = TO ∨ c = i1 ∨ c = i2 ∨ c = i3 ∨ c = i4 := by simpa using hc
    rcases e' with q | q | q | q | q | q | q
    · rw [q]; exact ⟨_, hz, fun v q => nomatch q⟩
    · rw [q]; exact ⟨_, hTI, fun v q => nomatch q⟩
    · rw [q]; exact ⟨_, hTO, fun v q => nomatch q⟩
    · rw [q]; exact ⟨o1, e1, fun v q => by rw [d1] at q; cases q⟩
    · rw [q]; exact ⟨o2, e2, fun v q => by rw [d2] at q; cases q⟩
    · rw [q]; exact ⟨o3, e3, fun v q => by rw [d3] at q; cases q⟩
    · rw [q]; exact ⟨o4, e4, fun v q => by rw [d4] at q; cases q⟩
  keep := fun i h h' st k => by
    obtain ⟨hz, hTI, ⟨a1, a2, a3, a4, hTO⟩, h1, h2, h3, h4⟩ := st
    exact ⟨k z (by simp) _ hz, k TI (by simp) _ hTI, ⟨a1, a2, a3, a4, k TO (by simp) _ hTO⟩, h1.at (fun o q => k i1 (by simp) o q), h2.at (fun o q => k i2 (by simp) o q), h3.at (fun o q => k i3 (by simp) o q), h4.at fun o q => k i4 (by simp) o q⟩
  item := by
    intro X hP hw hK hc i pins s σ H E I hf st hg
    subst hP hw hK
    obtain ⟨hz, hTI, ⟨a1, a2, a3, a4, hTO⟩, q1, q2, q3, q4⟩ := st
    obtain ⟨us1, us2, us3, us4, hu1, hu2, hu3, hu4, hlt⟩ := hg
    obtain ⟨S1, D1, s1, sI1⟩ := SK.draw X.A.in1 (I.ok.hd hc) I hu1 q1
    obtain ⟨S2, D2, s2, sI2⟩ := SK.draw X.A.in1 (I.ok.hd hc) I hu2 q2
    obtain ⟨S3, D3, s3, sI3⟩ := SK.draw X.A.in1 (I.ok.hd hc) I hu3 q3
    obtain ⟨S4, D4, s4, sI4⟩ := SK.draw X.A.in1 (I.ok.hd hc) I hu4 q4
    have nin : ∀ {b : Addr} {k : SK} {it : Addr} {us : List V}, k.Is X.K H us → b ∈ [z, TI, TO, i1, i2, i3, i4] → b ≠ it → b ∉ it :: k.cells := fun hu hb ne q => (List.mem_cons.mp q).elim ne (SK.apart I hu (hf _ hb))
    have Sp : Zs4 z TI TO i1 i2 i3 i4 (i1 :: k1.cells) (i2 :: k2.cells) (i3 :: k3.cells) (i4 :: k4.cells) :=
      { TIz := D.TIz, TOz := D.TOz, TITO := D.TITO, TIi1 := D.TIi1, mem1 := List.mem_cons_self .., zf1 := nin hu1 (by simp) D.z1, Tf1 := nin hu1 (by simp) D.T1, TIi2 := D.TIi2, mem2 := List.mem_cons_self .., zf2 := nin hu2 (by simp) D.z2, Tf2 := nin hu2 (by simp) D.T2, TIi3 := D.TIi3, mem3 := List.mem_cons_self .., zf3 := nin hu3 (by simp) D.z3, Tf3 := nin hu3 (by simp) D.T3, TIi4 := D.TIi4, mem4 := List.mem_cons_self .., zf4 := nin hu4 (by simp) D.z4, Tf4 := nin hu4 (by simp) D.T4, sep2_1 := nin hu1 (by simp) D.i2_1, sep3_1 := nin hu1 (by simp) D.i3_1, sep4_1 := nin hu1 (by simp) D.i4_1, sep1_2 := nin hu2 (by simp) D.i1_2, sep3_2 := nin hu2 (by simp) D.i3_2, sep4_2 := nin hu2 (by simp) D.i4_2, sep1_3 := nin hu3 (by simp) D.i1_3, sep2_3 := nin hu3 (by simp) D.i2_3, sep4_3 := nin hu3 (by simp) D.i4_3, sep1_4 := nin hu4 (by simp) D.i1_4, sep2_4 := nin hu4 (by simp) D.i2_4, sep3_4 := nin hu4 (by simp) D.i3_4 }
    have hlt1 : i < us1.length := by omega
    have hlt2 : i < us2.length := by omega
    have hlt3 : i < us3.length := by omega
    have hlt4 : i < us4.length := by omega
    refine nx4_item Sp D1 D2 D3 D4 hz hTI hTO s1 s2 s3 s4 hlt1 hlt2 hlt3 hlt4 fun x1 x2 x3 x4 h' tk y1 y2 y3 y4 b1 b2 d1 d2 d3 d4 b5 b6 hk => ?_
    have lt : ∀ {c o}, s.heap.get? c = some o → s.heap.objs.size ≠ c := fun e => Nat.ne_of_gt (Heap.lt_size e)
    have l1 : s.heap.objs.size ≠ i1 := by obtain ⟨_, e⟩ := D1.live _ _ s1; exact lt e
    have l2 : s.heap.objs.size ≠ i2 := by obtain ⟨_, e⟩ := D2.live _ _ s2; exact lt e
    have l3 : s.heap.objs.size ≠ i3 := by obtain ⟨_, e⟩ := D3.live _ _ s3; exact lt e
    have l4 : s.heap.objs.size ≠ i4 := by obtain ⟨_, e⟩ := D4.live _ _ s4; exact lt e
    refine ⟨_, rfl, ?_⟩
    refine wpAny_letOwnedTupleGo_zip b1 fun h2 hz2 hs2 => ?_
    obtain ⟨w1, e1, r1⟩ := y1
    obtain ⟨w2, e2, r2⟩ := y2
    obtain ⟨w3, e3, r3⟩ := y3
    obtain ⟨w4, e4, r4⟩ := y4
    have hT1 : Tup4 h2 s.heap.objs.size x1 x2 x3 x4 := hs2.extBut _ _ (lt hz) b5
    have hk2 : ∀ b o, b ∉ [z, TI, TO, i1, i2, i3, i4] → s.heap.get? b = some o → h2.get? b = some o := fun b o hb q => hs2.extBut _ _ (fun x => hb (by simp [x])) (hk b o (fun x => hb (by simp [x])) (fun x => hb (by simp [x])) (fun x => hb (by simp [x])) (fun x => hb (by simp [x])) (fun x => hb (by simp [x])) (fun x => hb (by simp [x])) q)
    have hT2 : h2.IsTuple s.heap.objs.size #[x1, x2, x3, x4] := ⟨_, hT1, rfl, _, rfl⟩
    have new : ObjOk X.prog X.w (upd H s.heap.objs.size (.tup [w1, w2, w3, w4])) h2 s.heap.objs.size (.tup [w1, w2, w3, w4]) :=
      ⟨by show 4 ≤ sizeLine; rw [sizeLine_eq]; decide, [x1, x2, x3, x4], (.cons r1 (.cons r2 (.cons r3 (.cons r4 .nil)))), hT2⟩
    have I1 : Inv X pins σ (upd H s.heap.objs.size (.tup [w1, w2, w3, w4])) { s with heap := h2, toks := tk } := I.turnedNew (t' := tk) (ch := [z, TI, TO, i1, i2, i3, i4]) hk2 hf (Nat.le_refl _) new
    refine ⟨.ref s.heap.objs.size, _, I1, rfl, ⟨s.heap.objs.size, w1, w2, w3, w4, rfl, I.hok.fresh (Nat.le_refl _), rfl, (fun us hu => by rw [SK.inj I hu hu1]; exact e1), (fun us hu => by rw [SK.inj I hu hu2]; exact e2), (fun us hu => by rw [SK.inj I hu hu3]; exact e3), (fun us hu => by rw [SK.inj I hu hu4]; exact e4)⟩, ⟨hz2, hs2.extBut _ _ D.TIz (hk _ _ D.TIz D.TITO D.TIi1 D.TIi2 D.TIi3 D.TIi4 hTI), ⟨x1, x2, x3, x4, hs2.extBut _ _ D.TOz b2⟩, sI1 _ _ (D1.over d1 hs2 Sp.zf1), sI2 _ _ (D2.over d2 hs2 Sp.zf2), sI3 _ _ (D3.over d3 hs2 Sp.zf3), sI4 _ _ (D4.over d4 hs2 Sp.zf4)⟩, fun b hb => ?_⟩
    have hb' : b < s.heap.objs.size := by
      have e' : b = z ∨ b = TI ∨ b = TO ∨ b = i1 ∨ b = i2 ∨ b = i3 ∨ b = i4 := by simpa using hb
      rcases e' with q | q | q | q | q | q | q
      · rw [q]; exact Heap.lt_size hz
      · rw [q]; exact Heap.lt_size hTI
      · rw [q]; exact Heap.lt_size hTO
      · rw [q]; obtain ⟨_, _, _, e1, _⟩ := q1.get; exact Heap.lt_size e1
      · rw [q]; obtain ⟨_, _, _, e1, _⟩ := q2.get; exact Heap.lt_size e1
      · rw [q]; obtain ⟨_, _, _, e1, _⟩ := q3.get; exact Heap.lt_size e1
      · rw [q]; obtain ⟨_, _, _, e1, _⟩ := q4.get; exact Heap.lt_size e1
    rw [upd_ne (Nat.ne_of_lt hb')]
    exact (hf b hb).1
  done := by
    intro X hP hw hK hc i pins s σ H E I hf st hg
    subst hP hw hK
    obtain ⟨hz, hTI, ⟨a1, a2, a3, a4, hTO⟩, q1, q2, q3, q4⟩ := st
    obtain ⟨us1, us2, us3, us4, hu1, hu2, hu3, hu4, hend⟩ := hg
    obtain ⟨S1, D1, s1, sI1⟩ := SK.draw X.A.in1 (I.ok.hd hc) I hu1 q1
    obtain ⟨S2, D2, s2, sI2⟩ := SK.draw X.A.in1 (I.ok.hd hc) I hu2 q2
    obtain ⟨S3, D3, s3, sI3⟩ := SK.draw X.A.in1 (I.ok.hd hc) I hu3 q3
    obtain ⟨S4, D4, s4, sI4⟩ := SK.draw X.A.in1 (I.ok.hd hc) I hu4 q4
    have nin : ∀ {b : Addr} {k : SK} {it : Addr} {us : List V}, k.Is X.K H us → b ∈ [z, TI, TO, i1, i2, i3, i4] → b ≠ it → b ∉ it :: k.cells := fun hu hb ne q => (List.mem_cons.mp q).elim ne (SK.apart I hu (hf _ hb))
    have Sp : Zs4 z TI TO i1 i2 i3 i4 (i1 :: k1.cells) (i2 :: k2.cells) (i3 :: k3.cells) (i4 :: k4.cells) :=
      { TIz := D.TIz, TOz := D.TOz, TITO := D.TITO, TIi1 := D.TIi1, mem1 := List.mem_cons_self .., zf1 := nin hu1 (by simp) D.z1, Tf1 := nin hu1 (by simp) D.T1, TIi2 := D.TIi2, mem2 := List.mem_cons_self .., zf2 := nin hu2 (by simp) D.z2, Tf2 := nin hu2 (by simp) D.T2, TIi3 := D.TIi3, mem3 := List.mem_cons_self .., zf3 := nin hu3 (by simp) D.z3, Tf3 := nin hu3 (by simp) D.T3, TIi4 := D.TIi4, mem4 := List.mem_cons_self .., zf4 := nin hu4 (by simp) D.z4, Tf4 := nin hu4 (by simp) D.T4, sep2_1 := nin hu1 (by simp) D.i2_1, sep3_1 := nin hu1 (by simp) D.i3_1, sep4_1 := nin hu1 (by simp) D.i4_1, sep1_2 := nin hu2 (by simp) D.i1_2, sep3_2 := nin hu2 (by simp) D.i3_2, sep4_2 := nin hu2 (by simp) D.i4_2, sep1_3 := nin hu3 (by simp) D.i1_3, sep2_3 := nin hu3 (by simp) D.i2_3, sep4_3 := nin hu3 (by simp) D.i4_3, sep1_4 := nin hu4 (by simp) D.i1_4, sep2_4 := nin hu4 (by simp) D.i2_4, sep3_4 := nin hu4 (by simp) D.i3_4 }
    refine nx4_end Sp D1 D2 D3 D4 hz hTI hTO s1 s2 s3 s4 (by omega) (by omega) (by omega) (by omega) (by omega) fun h' tk hk => ⟨rfl, I.turnedL (t' := tk) (ch := [z, TI, TO, i1, i2, i3, i4]) (fun b o hb q => hk b o (fun x => hb (by simp [x])) (fun x => hb (by simp [x])) (fun x => hb (by simp [x])) (fun x => hb (by simp [x])) (fun x => hb (by simp [x])) (fun x => hb (by simp [x])) q) hf⟩
  self := fun A i s Q E st h => wpAny_pyIter_zip st.1 h
theorem ap4 (N : Nat) : Ap4 (N + 6) (N + 4) (N + 5) N (N + 1) (N + 2) (N + 3) := by
  constructor <;> (show (_ : Nat) ≠ _; omega)
section
variable {X : Cx}
def iZ4 (K : PySem.W.Frag) (ta : TA) : TI := fun σ H R => ta σ H fun vs H1 => ∃ w1 w2 w3 w4, vs = [w1, w2, w3, w4] ∧ SkV K H1 w1 fun k1 => SkV K H1 w2 fun k2 => SkV K H1 w3 fun k3 => SkV K H1 w4 fun k4 => R (J4 K k1 k2 k3 k4) H1
theorem vals4 {w1 w2 w3 w4 : V} {us : List Value} (h : Vals [w1, w2, w3, w4] us) : ∃ u1 u2 u3 u4, us = [u1, u2, u3, u4] ∧ RelV w1 u1 ∧ RelV w2 u2 ∧ RelV w3 u3 ∧ RelV w4 u4 := by
  cases h with
  | cons t1 m1 =>
    cases m1 with
    | cons t2 m2 =>
      obtain ⟨u3, u4, rfl, t3, t4⟩ := vals2 m2
      exact ⟨_, _, u3, u4, rfl, t1, t2, t3, t4⟩
theorem pi_z4 {e1 e2 e3 e4 : Expr} {ta : TA} {p pos tpos : Pos} {elts : List Expr} {kk : Nat} (hg : Gl X "zip") (hm : X.mg "zip" = none) (ha : PA X [e1, e2, e3, e4] ta)
    (hs : starEach [e1, e2, e3, e4] X.env = (false, eval e1 X.env) :: starEach [e2, e3, e4] X.env) (hpl : (backTo pos (starEach [e2, e3, e4] X.env)).any (·.1) = false) :
    PI X (.Tuple elts kk tpos) (.Call (.Name "zip" p) [e1, e2, e3, e4] [] pos) (iZ4 X.K ta) := by
  refine ⟨fun pins s σ H R I h => ?_⟩
  refine Call_ (ld_blt I hg hm PyProof.Rows.boot_zip (PyProof.Rows.callWith_type1 (thn (ha.run pos pins s σ H _ I h) fun us s1 ⟨vs, H1, I1, r1, q1⟩ => ?_) hs hpl))
  obtain ⟨w1, w2, w3, w4, ex, q⟩ := q1
  subst ex
  obtain ⟨u1, u2, u3, u4, rfl, t1, t2, t3, t4⟩ := vals4 r1
  obtain ⟨k1, rfl, p1, us1, hk1⟩ := skv_of t1 q
  obtain ⟨k2, rfl, p2, us2, hk2⟩ := skv_of t2 p1
  obtain ⟨k3, rfl, p3, us3, hk3⟩ := skv_of t3 p2
  obtain ⟨k4, rfl, p4, us4, hk4⟩ := skv_of t4 p3
  obtain ⟨C1, B1, hC1⟩ := SK.begins I1 hk1
  obtain ⟨C2, B2, hC2⟩ := SK.begins I1 hk2
  obtain ⟨C3, B3, hC3⟩ := SK.begins I1 hk3
  obtain ⟨C4, B4, hC4⟩ := SK.begins I1 hk4
  refine y4_begins B1 B2 B3 B4 hC1 hC2 hC3 hC4 fun h' hz hTI hTO g1 g2 g3 g4 hsz hkp => wpAny_pyIter_zip hz ?_
  have I2 : Inv X pins σ H1 { s1 with heap := h' } := I1.kept (t' := s1.toks) hkp
  refine ⟨s1.heap.objs.size + 6, [s1.heap.objs.size + 6, s1.heap.objs.size + 4, s1.heap.objs.size + 5, s1.heap.objs.size, s1.heap.objs.size + 1, s1.heap.objs.size + 2, s1.heap.objs.size + 3], _, _, H1, rfl, I2, turn_z4 k1 k2 k3 k4 (ap4 _), ⟨hz, hTI, ⟨_, _, _, _, hTO⟩, SK.It.of_obj g1, SK.It.of_obj g2, SK.It.of_obj g3, SK.It.of_obj g4⟩, fun c hcm => ?_, p4⟩
  have e' : c = s1.heap.objs.size + 6 ∨ c = s1.heap.objs.size + 4 ∨ c = s1.heap.objs.size + 5 ∨ c = s1.heap.objs.size ∨ c = s1.heap.objs.size + 1 ∨ c = s1.heap.objs.size + 2 ∨ c = s1.heap.objs.size + 3 := by simpa using hcm
  refine fresh_fp I1 ?_
  rcases e' with z | z | z | z | z | z | z
  · rw [z]; exact Nat.le_add_right _ _
  · rw [z]; exact Nat.le_add_right _ _
  · rw [z]; exact Nat.le_add_right _ _
  · rw [z]; exact Nat.le_refl _
  · rw [z]; exact Nat.le_add_right _ _
  · rw [z]; exact Nat.le_add_right _ _
  · rw [z]; exact Nat.le_add_right _ _
end
theorem zip4P_len {xs1 xs2 xs3 xs4 : List PV} : (zip4P xs1 xs2 xs3 xs4).length = (min xs1.length (min xs2.length (min xs3.length xs4.length))) := by
  unfold zip4P
  simp only [List.length_map, List.length_zip]
theorem zip4P_get {xs1 xs2 xs3 xs4 : List PV} {i : Nat} {x1 x2 x3 x4 : PV} (h1 : xs1[i]? = some x1) (h2 : xs2[i]? = some x2) (h3 : xs3[i]? = some x3) (h4 : xs4[i]? = some x4) : (zip4P xs1 xs2 xs3 xs4)[i]? = some (.tup [x1, x2, x3, x4]) := by
  unfold zip4P
  rw [List.getElem?_map, ((List.getElem?_zip_eq_some (z := (x1, (x2, (x3, x4))))).mpr ⟨h1, ((List.getElem?_zip_eq_some (z := (x2, (x3, x4)))).mpr ⟨h2, ((List.getElem?_zip_eq_some (z := (x3, x4))).mpr ⟨h3, h4⟩)⟩)⟩)]
  rfl
theorem GW.z4 {K : PySem.W.Frag} {items : List PV} {src : PM → Hp → Prop} {k1 k2 k3 k4 : SK} (hs : ∀ μ H, RepH K H μ → src μ H → ∃ xs1 xs2 xs3 xs4 us1 us2 us3 us4, k1.Is K H us1 ∧ RepVs K H xs1 us1 ∧ k2.Is K H us2 ∧ RepVs K H xs2 us2 ∧ k3.Is K H us3 ∧ RepVs K H xs3 us3 ∧ k4.Is K H us4 ∧ RepVs K H xs4 us4 ∧ zip4P xs1 xs2 xs3 xs4 = items) :
    GW K src items (J4 K k1 k2 k3 k4) where
  go := fun i μ H m s hi => by
    obtain ⟨xs1, xs2, xs3, xs4, us1, us2, us3, us4, h1, g1, h2, g2, h3, g3, h4, g4, rfl⟩ := hs μ H m s
    rw [zip4P_len] at hi
    exact ⟨us1, us2, us3, us4, h1, h2, h3, h4, by rw [← g1.length, ← g2.length, ← g3.length, ← g4.length]; exact hi⟩
  stop := fun μ H m s => by
    obtain ⟨xs1, xs2, xs3, xs4, us1, us2, us3, us4, h1, g1, h2, g2, h3, g3, h4, g4, rfl⟩ := hs μ H m s
    exact ⟨us1, us2, us3, us4, h1, h2, h3, h4, by rw [← g1.length, ← g2.length, ← g3.length, ← g4.length, zip4P_len]⟩
  yld := fun i μ H x H' m s hi y => by
    obtain ⟨xs1, xs2, xs3, xs4, us1, us2, us3, us4, h1, g1, h2, g2, h3, g3, h4, g4, rfl⟩ := hs μ H m s
    obtain ⟨T, x1, x2, x3, x4, rfl, nn, rfl, f1, f2, f3, f4⟩ := y
    obtain ⟨v1, c1, d1⟩ := g1.get' (f1 us1 h1)
    obtain ⟨v2, c2, d2⟩ := g2.get' (f2 us2 h2)
    obtain ⟨v3, c3, d3⟩ := g3.get' (f3 us3 h3)
    obtain ⟨v4, c4, d4⟩ := g4.get' (f4 us4 h4)
    exact ⟨.tup [v1, v2, v3, v4], zip4P_get c1 c2 c3 c4, m.hid nn, Ext.hid nn, T, [x1, x2, x3, x4], rfl, SqT.of upd_same, (by rw [sizeLine_eq]; show 4 ≤ _; decide), (RepVs.cons (d1.mono (TupLe.upd_new nn)) (RepVs.cons (d2.mono (TupLe.upd_new nn)) (RepVs.cons (d3.mono (TupLe.upd_new nn)) (RepVs.cons (d4.mono (TupLe.upd_new nn)) RepVs.nil))))⟩
section
variable {X : Cx} {W : WX} {e1 e2 e3 e4 : Expr} {p pos : Pos} {ws : PE_ → PM → (List PV → PM → Prop) → XPost → Prop}
theorem ress4 {H0 H : Hp} {μ : PM} {x1 x2 x3 x4 : PV} {ws : List V} (r : Ress X.K H0 μ H [x1, x2, x3, x4] ws) : ∃ w1 w2 w3 w4, ws = [w1, w2, w3, w4] ∧ Res X.K H0 μ H x1 w1 ∧ Res X.K H0 μ H x2 w2 ∧ Res X.K H0 μ H x3 w3 ∧ Res X.K H0 μ H x4 w4 := by
  obtain ⟨w1, r1, rfl, h1, t1⟩ := r
  obtain ⟨w2, r2, rfl, h2, t2⟩ := t1
  obtain ⟨w3, w4, rfl, h3, h4⟩ := ress2 t2
  exact ⟨w1, w2, w3, w4, rfl, h1, h2, h3, h4⟩
theorem pi_k_z4 {elts : List Expr} {kk : Nat} {tp : Pos} (hg : Gl X "zip") (hm : X.mg "zip" = none) (ha : PA X [e1, e2, e3, e4] (TAr X.K W ws)) (hs1 : noStar e1 = true) (hs2 : noStar e2 = true) (hs3 : noStar e3 = true) (hs4 : noStar e4 = true) :
    PI X (.Tuple elts kk tp) (.Call (.Name "zip" p) [e1, e2, e3, e4] [] pos) (TIk X.K W (fun ρ μ P Y => ws ρ μ (fun vs μ1 => vs.length = 4 ∧ P vs μ1) Y) .zip4) := by
  refine ⟨fun pins s σ H R I h => (pi_z4 hg hm ha (star_cons _ hs1) (star_back _ _ (by simp [hs2, hs3, hs4]))).run pins s σ H R I ?_⟩
  obtain ⟨ρ, μ, P, Y, hρ, m, h, cx, c⟩ := h
  refine ⟨ρ, μ, _, Y, hρ, m, h, fun vs μ1 us H1 r m1 e1 p1 => ?_, cx⟩
  obtain ⟨l1, p1⟩ := p1
  obtain ⟨items, e, c2⟩ := c vs μ1 H1 m1 e1 p1
  match vs, e, l1 with
  | [x1, x2, x3, x4], e, _ =>
    obtain ⟨w1, w2, w3, w4, rfl, r1, r2, r3, r4⟩ := ress4 r
    have e' : (match itS μ1 x1, itS μ1 x2, itS μ1 x3, itS μ1 x4 with
      | some xs1, some xs2, some xs3, some xs4 => some (zip4P xs1 xs2 xs3 xs4)
      | _, _, _, _ => none) = some items := e
    cases t1 : itS μ1 x1 with
    | none => simp only [t1] at e'; cases e'
    | some xs1 =>
      cases t2 : itS μ1 x2 with
      | none => simp only [t1, t2] at e'; cases e'
      | some xs2 =>
        cases t3 : itS μ1 x3 with
        | none => simp only [t1, t2, t3] at e'; cases e'
        | some xs3 =>
          cases t4 : itS μ1 x4 with
          | none => simp only [t1, t2, t3, t4] at e'; cases e'
          | some xs4 =>
            simp only [t1, t2, t3, t4] at e'
            cases e'
            refine ⟨w1, w2, w3, w4, rfl, skV_of m1 r1 t1 fun k1 hk1 => skV_of m1 r2 t2 fun k2 hk2 => skV_of m1 r3 t3 fun k3 hk3 => skV_of m1 r4 t4 fun k4 hk4 => c2 ?_ _ (GW.z4 fun μ2 H2 m2 ⟨e2, i2⟩ => ?_)⟩
            · have := itS_len m1 r1 t1
              rw [zip4P_len]
              exact Nat.le_trans (Nat.min_le_left _ _) this
            · have i3 : (match itS μ2 x1, itS μ2 x2, itS μ2 x3, itS μ2 x4 with
                | some xs1, some xs2, some xs3, some xs4 => some (zip4P xs1 xs2 xs3 xs4)
                | _, _, _, _ => none) = some (zip4P xs1 xs2 xs3 xs4) := i2
              cases z1 : itS μ2 x1 with
              | none => simp only [z1] at i3; cases i3
              | some ys1 =>
                cases z2 : itS μ2 x2 with
                | none => simp only [z1, z2] at i3; cases i3
                | some ys2 =>
                  cases z3 : itS μ2 x3 with
                  | none => simp only [z1, z2, z3] at i3; cases i3
                  | some ys3 =>
                    cases z4 : itS μ2 x4 with
                    | none => simp only [z1, z2, z3, z4] at i3; cases i3
                    | some ys4 =>
                      simp only [z1, z2, z3, z4] at i3
                      obtain ⟨vs1, a1, b1⟩ := itS_res m2 (r1.ext m1 e2) z1 hk1
                      obtain ⟨vs2, a2, b2⟩ := itS_res m2 (r2.ext m1 e2) z2 hk2
                      obtain ⟨vs3, a3, b3⟩ := itS_res m2 (r3.ext m1 e2) z3 hk3
                      obtain ⟨vs4, a4, b4⟩ := itS_res m2 (r4.ext m1 e2) z4 hk4
                      exact ⟨ys1, ys2, ys3, ys4, vs1, vs2, vs3, vs4, a1, b1, a2, b2, a3, b3, a4, b4, Option.some.inj i3⟩
end
end G

namespace G
open PySem PySem.Spec PyProof.Rows L2
variable [tb : Tb]

section
variable {G : GS} {hot : Nat} {C : Calls} {k : Nat}
theorem Gd.blk {X : Cx} (g : Gd G hot C k X) (hh : hot = 0) {s : Shared} {H : Hp} {scope : Scope} {env : Env} {fp : List Addr} (he : env.code = X.env.code) (hq : env.qual = X.env.qual) : Gd G hot C k (X.blk s H scope env fp) where
  calm := g.calm
  un := g.un
  nd := g.nd
  room := g.room
  free := g.free
  con := g.con
  own := g.own
  isi := g.isi
  ins := g.ins
  fld := g.fld
  fn := g.fn
  gl := g.gl
  mkf := g.mkf
  evh := g.evh
  evx := g.evx
  ex2 := g.ex2
  hx := fun z => by rw [hh] at z; cases z
  hf0 := g.hf0
  hf1 := fun _ f x m => by rw [g.hf0 hh] at m; cases m
  hf2 := fun z => by rw [hh] at z; cases z
  th1 := g.th1
  lf0 := g.lf0
  lfk := fun h f x m X' l r => g.lfk h f x m X' (LikeX.trans (Y := X.blk s H scope env fp) ⟨rfl, rfl, rfl, rfl, rfl, he, hq⟩ l) r
  low := g.low
  exf := g.exf
  act := fun a T e => by rw [g.evh hh] at e; cases e
  exh := fun a c e => by rw [g.evh hh] at e; cases e
  mth := g.mth
  mkr := g.mkr
structure R3 (X : Cx) (W : WX) (p : Expr) (wa : PE_ → PM → Post → XPost → Prop) : Prop where
  pe : PE X p (T X.K W wa)
  pt : tstOk p = true → PT X p (TB X.K W wa)
  pw : isBO p = true → PW X p (TB X.K W wa)
theorem val3 {X : Cx} {W : WX} {p : Expr} {wa : PE_ → PM → Post → XPost → Prop} (h : PE X p (T X.K W wa)) (h1 : isBO p = false) (h2 : tstOk p = true → tstE p = true) : R3 X W p wa :=
  ⟨h, fun q => ct_val h (h2 q), fun q => by rw [h1] at q; cases q⟩
theorem no3 {X : Cx} {W : WX} {p : Expr} {wa : PE_ → PM → Post → XPost → Prop} (h : PE X p (T X.K W wa)) (h1 : isBO p = false) (h2 : tstOk p = false) : R3 X W p wa :=
  ⟨h, (fun q => by rw [h2] at q; cases q), (fun q => by rw [h1] at q; cases q)⟩
theorem glo {X : Cx} (g : Gd G hot C k X) {x : Str} (h : G.free.contains x = true) : X.mg x = none := g.free x (by simpa using h)
theorem dbg {x : Str} (h : (!(x == ("__debug__" : Str))) = true) : (x == ("__debug__" : Str)) = false := by simpa using h
theorem ix_ok {i : Expr} (h : plainIxE i = true) : PlainIx i := by
  cases i <;> first | (intro _ _; rfl) | cases h
theorem set_ok {e : Expr} {env : Env} (h : noSet e = true) : ∀ x, foldedSetIterable e env x = pure x := by
  cases e <;> first | (intro _; rfl) | cases h
theorem bm_of {X : Cx} {m : Bm} (h : bmOk.contains m = true) : ∃ id r, BmG X m id r := by
  cases m with
  | append => exact ⟨_, _, bm_append⟩
  | pop => exact ⟨_, _, bm_pop⟩
  | extend => exact ⟨_, _, bm_extend⟩
  | split => exact ⟨_, _, bm_split⟩
  | join => exact ⟨_, _, bm_join⟩
  | count => exact ⟨_, _, bm_count⟩
  | index => exact ⟨_, _, bm_index⟩
  | _ => exact absurd h (by decide)
theorem am0 {C : Calls} {as : List E} {es : List Expr} {c : Cst} {sc : Scope} (h : mEs c as sc es = true) : es = [] → wpEs C as = fun ρ μ P Y => P [] μ := fun e => by
  subst e
  cases as with
  | nil => funext ρ μ P Y; simp [wpEs]
  | cons _ _ => simp [mEs] at h
theorem cl_pe {X : Cx} (g : Gd G hot C k X) {cl : Cl} {q : Expr} (h : mCl G X.env.scope cl q = true) : PE X q (tC (clW X.K cl)) ∧ noStar q = true := by
  cases cl with
  | bt n =>
    cases q <;> try (cases h; done)
    rename_i x pos
    have h' : (decide (x = Str.ofString n) && glB X.env.scope x && G.free.contains x && ["bool", "int", "str", "tuple", "list", "dict"].contains n) = true := h
    simp only [Bool.and_eq_true, decide_eq_true_eq] at h'
    obtain ⟨⟨⟨rfl, h2⟩, h3⟩, h4⟩ := h'
    refine ⟨?_, rfl⟩
    have hn : n = "bool" ∨ n = "int" ∨ n = "str" ∨ n = "tuple" ∨ n = "list" ∨ n = "dict" := by simpa using h4
    rcases hn with rfl | rfl | rfl | rfl | rfl | rfl
    · exact pe_bltn (u := .type "bool") (glB_ok h2) (glo g h3) (by decide +kernel) rfl
    · exact pe_bltn (u := .type "int") (glB_ok h2) (glo g h3) (by decide +kernel) rfl
    · exact pe_bltn (u := .type "str") (glB_ok h2) (glo g h3) (by decide +kernel) rfl
    · exact pe_bltn (u := .type "tuple") (glB_ok h2) (glo g h3) (by decide +kernel) rfl
    · exact pe_bltn (u := .type "list") (glB_ok h2) (glo g h3) (by decide +kernel) rfl
    · exact pe_bltn (u := .type "dict") (glB_ok h2) (glo g h3) (by decide +kernel) rfl
  | own n =>
    cases q <;> try (cases h; done)
    rename_i x pos
    have h' : (decide (x = n) && glB X.env.scope x && G.owns.contains x && !(x == ("__debug__" : Str))) = true := h
    simp only [Bool.and_eq_true, decide_eq_true_eq] at h'
    obtain ⟨⟨⟨rfl, h2⟩, h3⟩, h4⟩ := h'
    exact ⟨pe_glob (glB_ok h2) (g.own x (by simpa using h3)) rfl (dbg h4), rfl⟩

theorem len2 {α : Type} {l : List α} (h : l.length = 2) : ∃ a b, l = [a, b] := by
  match l, h with
  | [a, b], _ => exact ⟨a, b, rfl⟩
end
structure L3 (c : Cst) (C : Calls) (k : Nat) (X : Cx) (W : WX) (es : List E) : Prop where
  am : ∀ ps, mEs c es X.env.scope ps = true → PA X ps (TAm X.K W (wpEs C es))
  ar : ∀ ps, mEs c es X.env.scope ps = true → PA X ps (TAr X.K W (wpRs C es))
  one : ∀ e, es = [e] → ∀ p, mE c e X.env.scope p = true → R3 X W p (wpE C e)
  two : ∀ e e', es = [e, e'] → ∀ p, mE c e' X.env.scope p = true → R3 X W p (wpE C e')
  hd : ∀ e r, es = e :: r → ∀ p, mE c e X.env.scope p = true → R3 X W p (wpE C e)
section
variable {C : Calls} {k : Nat} {c : Cst}
theorem wpRs_one {C : Calls} {e : E} : wpRs C [e] = fun ρ μ P Y => wpE C e ρ μ (fun v μ1 => P [v] μ1) Y := by
  funext ρ μ P Y
  simp only [wpRs]
theorem len4 {α : Type} {l : List α} (h : l.length = 4) : ∃ a b c d, l = [a, b, c, d] := by
  match l, h with
  | [a, b, c, d], _ => exact ⟨a, b, c, d, rfl⟩
theorem wpRs_four {C : Calls} {e1 e2 e3 e4 : E} : wpRs C [e1, e2, e3, e4] = fun ρ μ P Y => wpE C e1 ρ μ (fun v1 μ1 => wpE C e2 ρ μ1 (fun v2 μ2 => wpE C e3 ρ μ2 (fun v3 μ3 => wpE C e4 ρ μ3 (fun v4 μ4 => P [v1, v2, v3, v4] μ4) Y) Y) Y) Y := by
  simp only [wpRs]
theorem wpRs_two {C : Calls} {e e' : E} : wpRs C [e, e'] = fun ρ μ P Y => wpE C e ρ μ (fun v μ1 => wpE C e' ρ μ1 (fun w μ2 => P [v, w] μ2) Y) Y := by
  funext ρ μ P Y
  simp only [wpRs]
/-- a walk's source -/
theorem ik_pi {X : Cx} {W : WX} {ik : IK} {src : List E} {pt pi : Expr} {ps : List Expr} (g : Gd c.G c.hot C k X) (L : L3 c C k X W src) (hk : ikArgs c.G ik X.env.scope pt pi = some ps) (hm : mEs c src X.env.scope ps = true) :
    PI X pt pi (TIk X.K W (wpRs C src) ik) := by
  have nil : ∀ {es : List E}, mEs c es X.env.scope [] = true → es = [] := fun {es} h => by
    cases es with
    | nil => rfl
    | cons _ _ => simp [mEs] at h
  have cons : ∀ {es : List E} {p : Expr} {ps : List Expr}, mEs c es X.env.scope (p :: ps) = true → ∃ e r, es = e :: r ∧ mE c e X.env.scope p = true ∧ noStar p = true ∧ mEs c r X.env.scope ps = true := fun {es p ps} h => by
    cases es with
    | nil => simp [mEs] at h
    | cons e r =>
      simp only [mEs, Bool.and_eq_true] at h
      exact ⟨e, r, rfl, h.1.1, h.1.2, h.2⟩
  cases ik with
  | seq =>
    have e : some [pi] = some ps := hk
    cases e
    obtain ⟨e, r, rfl, h1, h2, h3⟩ := cons hm
    have := nil h3
    subst this
    rw [wpRs_one]
    exact pi_k_seq (L.one e rfl pi h1).pe
  | rng =>
    cases pi <;> try (cases hk; done)
    rename_i f es ks pos
    cases f <;> try (cases hk; done)
    rename_i x np
    cases ks <;> try (cases hk; done)
    have hk' : (if decide (x = ("range" : Str)) && c.G.free.contains x && glB X.env.scope x && (decide (es.length = 1) || decide (es.length = 2)) then some es else none) = some ps := hk
    split at hk' <;> try (cases hk'; done)
    rename_i hc
    cases hk'
    simp only [Bool.and_eq_true, Bool.or_eq_true, decide_eq_true_eq] at hc
    obtain ⟨⟨⟨rfl, h2⟩, h3⟩, h4⟩ := hc
    rcases h4 with h4 | h4
    · obtain ⟨p, rfl⟩ := List.length_eq_one_iff.mp h4
      obtain ⟨e, r, rfl, h5, h6, h7⟩ := cons hm
      have := nil h7
      subst this
      have ha := L.ar [p] hm
      rw [wpRs_one] at ha ⊢
      refine ⟨fun pins s σ H R I h => (pi_k_rng1 (glB_ok h3) (glo g h2) ha h6).run pins s σ H R I ?_⟩
      obtain ⟨ρ, μ, P, Y, q1, q2, q3, q4, q5⟩ := h
      exact ⟨ρ, μ, P, Y, q1, q2, by simpa using q3, q4, q5⟩
    · obtain ⟨p, p', rfl⟩ := len2 h4
      obtain ⟨e, r, rfl, h5, h6, h7⟩ := cons hm
      obtain ⟨e', r', rfl, h8, h9, h10⟩ := cons h7
      have := nil h10
      subst this
      have ha := L.ar [p, p'] hm
      rw [wpRs_two] at ha ⊢
      refine ⟨fun pins s σ H R I h => (pi_k_rng2 (glB_ok h3) (glo g h2) ha h6 h9).run pins s σ H R I ?_⟩
      obtain ⟨ρ, μ, P, Y, q1, q2, q3, q4, q5⟩ := h
      exact ⟨ρ, μ, P, Y, q1, q2, by simpa using q3, q4, q5⟩
  | enum =>
    cases pi <;> try (cases hk; done)
    rename_i f es ks pos
    cases f <;> try (cases hk; done)
    rename_i x np
    cases ks <;> try (cases hk; done)
    have hk' : (if decide (x = ("enumerate" : Str)) && c.G.free.contains x && glB X.env.scope x && decide (es.length = 1) && isTupE pt then some es else none) = some ps := hk
    split at hk' <;> try (cases hk'; done)
    rename_i hc
    cases hk'
    simp only [Bool.and_eq_true, Bool.or_eq_true, decide_eq_true_eq] at hc
    obtain ⟨⟨⟨⟨rfl, h2⟩, h3⟩, h4⟩, h5'⟩ := hc
    cases pt <;> try (cases h5'; done)
    obtain ⟨p, rfl⟩ := List.length_eq_one_iff.mp h4
    obtain ⟨e, r, rfl, h5, h6, h7⟩ := cons hm
    have := nil h7
    subst this
    have ha := L.ar [p] hm
    rw [wpRs_one] at ha ⊢
    refine ⟨fun pins s σ H R I h => (pi_k_enum (glB_ok h3) (glo g h2) ha h6).run pins s σ H R I ?_⟩
    obtain ⟨ρ, μ, P, Y, q1, q2, q3, q4, q5⟩ := h
    exact ⟨ρ, μ, P, Y, q1, q2, by simpa using q3, q4, q5⟩
  | zip =>
    cases pi <;> try (cases hk; done)
    rename_i f es ks pos
    cases f <;> try (cases hk; done)
    rename_i x np
    cases ks <;> try (cases hk; done)
    have hk' : (if decide (x = ("zip" : Str)) && c.G.free.contains x && glB X.env.scope x && decide (es.length = 2) && isTupE pt then some es else none) = some ps := hk
    split at hk' <;> try (cases hk'; done)
    rename_i hc
    cases hk'
    simp only [Bool.and_eq_true, Bool.or_eq_true, decide_eq_true_eq] at hc
    obtain ⟨⟨⟨⟨rfl, h2⟩, h3⟩, h4⟩, h5'⟩ := hc
    cases pt <;> try (cases h5'; done)
    obtain ⟨p, p', rfl⟩ := len2 h4
    obtain ⟨e, r, rfl, h5, h6, h7⟩ := cons hm
    obtain ⟨e', r', rfl, h8, h9, h10⟩ := cons h7
    have := nil h10
    subst this
    have ha := L.ar [p, p'] hm
    rw [wpRs_two] at ha ⊢
    refine ⟨fun pins s σ H R I h => (pi_k_zip (glB_ok h3) (glo g h2) ha h6 h9).run pins s σ H R I ?_⟩
    obtain ⟨ρ, μ, P, Y, q1, q2, q3, q4, q5⟩ := h
    exact ⟨ρ, μ, P, Y, q1, q2, by simpa using q3, q4, q5⟩
  | enumzip =>
    cases pi <;> try (cases hk; done)
    rename_i f es ks pos
    cases f <;> try (cases hk; done)
    rename_i x np
    match es, ks, hk with
    | [.Call (.Name y p2) es [] q], [], hk =>
      have hk' : (if decide (x = ("enumerate" : Str)) && decide (y = ("zip" : Str)) && c.G.free.contains x && glB X.env.scope x && c.G.free.contains y && glB X.env.scope y && decide (es.length = 2) && isTupE pt then some es else none) = some ps := hk
      split at hk' <;> try (cases hk'; done)
      rename_i hc
      cases hk'
      simp only [Bool.and_eq_true, Bool.or_eq_true, decide_eq_true_eq] at hc
      obtain ⟨⟨⟨⟨⟨⟨⟨rfl, rfl⟩, h2⟩, h3⟩, h2'⟩, h3'⟩, h4⟩, h5'⟩ := hc
      cases pt <;> try (cases h5'; done)
      obtain ⟨p, p', rfl⟩ := len2 h4
      obtain ⟨e, r, rfl, h5, h6, h7⟩ := cons hm
      obtain ⟨e', r', rfl, h8, h9, h10⟩ := cons h7
      have := nil h10
      subst this
      have ha := L.ar [p, p'] hm
      rw [wpRs_two] at ha ⊢
      refine ⟨fun pins s σ H R I h => (pi_k_ez (glB_ok h3) (glo g h2) (glB_ok h3') (glo g h2') ha h6 h9).run pins s σ H R I ?_⟩
      obtain ⟨ρ, μ, P, Y, q1, q2, q3, q4, q5⟩ := h
      exact ⟨ρ, μ, P, Y, q1, q2, by simpa using q3, q4, q5⟩
  | zip3 => cases pi <;> cases hk
  | zipL => cases pi <;> cases hk
  | zip4 =>
    cases pi <;> try (cases hk; done)
    rename_i f es ks pos
    cases f <;> try (cases hk; done)
    rename_i x np
    cases ks <;> try (cases hk; done)
    have hk' : (if decide (x = ("zip" : Str)) && c.G.free.contains x && glB X.env.scope x && decide (es.length = 4) && isTupE pt then some es else none) = some ps := hk
    split at hk' <;> try (cases hk'; done)
    rename_i hc
    cases hk'
    simp only [Bool.and_eq_true, Bool.or_eq_true, decide_eq_true_eq] at hc
    obtain ⟨⟨⟨⟨rfl, h2⟩, h3⟩, h4⟩, h5'⟩ := hc
    cases pt <;> try (cases h5'; done)
    obtain ⟨p1, p2, p3, p4, rfl⟩ := len4 h4
    obtain ⟨e1, r1, rfl, a1, a2, a3⟩ := cons hm
    obtain ⟨e2, r2, rfl, b1, b2, b3⟩ := cons a3
    obtain ⟨e3, r3, rfl, c1, c2, c3⟩ := cons b3
    obtain ⟨e4, r4, rfl, d1, d2, d3⟩ := cons c3
    have := nil d3
    subst this
    have ha := L.ar [p1, p2, p3, p4] hm
    rw [wpRs_four] at ha ⊢
    refine ⟨fun pins s σ H R I h => (pi_k_z4 (glB_ok h3) (glo g h2) ha a2 b2 c2 d2).run pins s σ H R I ?_⟩
    obtain ⟨ρ, μ, P, Y, q1, q2, q3, q4, q5⟩ := h
    exact ⟨ρ, μ, P, Y, q1, q2, by simpa using q3, q4, q5⟩
  | rev => cases pi <;> cases hk
  | items => cases pi <;> cases hk
  | values => cases pi <;> cases hk
theorem PIP.imp {X : Cx} {tg iter : Expr} {wi wi' : TI} (h : PIP X tg iter wi) (i : ∀ σ H R, wi' σ H R → wi σ H R) : PIP X tg iter wi' := ⟨fun I q => h.go I (i _ _ _ q)⟩
/-- .. while an exception is handled -/
theorem hot_pi {X : Cx} {W : WX} {ik : IK} {src : List E} {pt pi : Expr} {ps : List Expr} (g : Gd c.G c.hot C k X) (L : L3 c C k X W src) (hk : hotArgs c.G ik X.env.scope pt pi = some ps) (hm : mEs c src X.env.scope ps = true) :
    PIP X pt pi (TIk X.K W (wpRs C src) ik) := by
  have nil : ∀ {es : List E}, mEs c es X.env.scope [] = true → es = [] := fun {es} h => by
    cases es with
    | nil => rfl
    | cons _ _ => simp [mEs] at h
  have cons : ∀ {es : List E} {p : Expr} {ps : List Expr}, mEs c es X.env.scope (p :: ps) = true → ∃ e r, es = e :: r ∧ mE c e X.env.scope p = true ∧ noStar p = true ∧ mEs c r X.env.scope ps = true := fun {es p ps} h => by
    cases es with
    | nil => simp [mEs] at h
    | cons e r =>
      simp only [mEs, Bool.and_eq_true] at h
      exact ⟨e, r, rfl, h.1.1, h.1.2, h.2⟩
  cases ik <;> try (cases pi <;> cases hk; done)
  cases pi <;> try (cases hk; done)
  rename_i f es ks pos
  cases f <;> try (cases hk; done)
  rename_i x np
  cases ks <;> try (cases hk; done)
  have hk' : (if decide (x = ("zip" : Str)) && c.G.free.contains x && glB X.env.scope x && decide (es.length = 2) && isTupE pt then some es else none) = some ps := hk
  split at hk' <;> try (cases hk'; done)
  rename_i hc
  cases hk'
  simp only [Bool.and_eq_true, Bool.or_eq_true, decide_eq_true_eq] at hc
  obtain ⟨⟨⟨⟨rfl, h2⟩, h3⟩, h4⟩, h5'⟩ := hc
  cases pt <;> try (cases h5'; done)
  obtain ⟨p, p', rfl⟩ := len2 h4
  obtain ⟨e, r, rfl, h5, h6, h7⟩ := cons hm
  obtain ⟨e', r', rfl, h8, h9, h10⟩ := cons h7
  have := nil h10
  subst this
  have ha := L.ar [p, p'] hm
  rw [wpRs_two] at ha ⊢
  refine (pi_k_zipL (glB_ok h3) (glo g h2) ha h6 h9).imp fun σ H R h => ?_
  obtain ⟨ρ, μ, P, Y, q1, q2, q3, q4, q5⟩ := h
  exact ⟨ρ, μ, P, Y, q1, q2, by simpa using q3, q4, q5⟩
end
end G

namespace G
open PySem PySem.Spec PyProof.Rows L2
variable [tb : Tb]
theorem own_ix {N : List Str} : ∀ {own : List Nat} {l : List (Str × Nat)}, (own.filterMap fun i => (N[i]?).map fun x => (x, i)) = l → l.map (·.2) = own → True := fun _ _ => trivial
theorem tk0 {X : Cx} : L2N.Takes X W0 := fun _ _ x => by
  obtain ⟨_, _, _, _, _, _, _, _, _, _, _, _, _, _, _, _, w⟩ := x
  exact w.elim
theorem pe_non' {X : Cx} {pos : Pos} {j : Nat} : True := trivial
section
theorem xc_pe {G : GS} {hot : Nat} {C : Calls} {k : Nat} {X : Cx} (g : Gd G hot C k X) {cl : Cl} {q : Expr} (h : mXc G X.env.scope cl q = true) : PE X q (tC (clW X.K cl)) ∧ noStar q = true := by
  cases cl with
  | bt n =>
    cases q <;> try (cases h; done)
    rename_i x pos
    have h' : (decide (x = Str.ofString n) && glB X.env.scope x && G.free.contains x && decide (n = "ValueError")) = true := h
    simp only [Bool.and_eq_true, decide_eq_true_eq] at h'
    obtain ⟨⟨⟨rfl, h2⟩, h3⟩, rfl⟩ := h'
    exact ⟨pe_bltn (u := .type "ValueError") (glB_ok h2) (glo g h3) (by decide +kernel) rfl, rfl⟩
  | own n =>
    cases q <;> try (cases h; done)
    rename_i x pos
    have h' : (decide (x = n) && glB X.env.scope x && G.excs.contains x && !(x == ("__debug__" : Str))) = true := h
    simp only [Bool.and_eq_true, decide_eq_true_eq] at h'
    obtain ⟨⟨⟨rfl, h2⟩, h3⟩, h4⟩ := h'
    exact ⟨pe_glob (glB_ok h2) (g.exf.nm x (by simpa using h3)).1 rfl (dbg h4), rfl⟩
theorem pe_false {X : Cx} {e : Expr} {t : TE} (h : ∀ σ H Q, ¬ t σ H Q) : PE X e t := ⟨fun pins s σ H Q I q => absurd q (h σ H Q)⟩
theorem FnF.no {P : Program} {w : World} {K : PySem.W.Frag} {mg : Str → Option Value} {base : Heap} {k j : Nat} {call : List PV → PM → Post → XPost → Prop} {f : Addr} {i : Nat} (h : FnF P w K mg base k call f) : FnF P w K mg base j (noF i) f := by
  obtain ⟨fd, ps, F, Bd⟩ := h.ok
  have nope : ∀ vs H Q E, ¬ spOf K (noF i) vs H Q E := fun vs H Q E h => by
    obtain ⟨_, _, _, _, _, _, h, _⟩ := h
    exact h
  exact ⟨h.kp, fd, ps, ⟨fun vs H Q E h => absurd h (nope _ _ _ _), fun A outer s H args us vs Q E hr he0 hb hv hs => absurd hs (nope _ _ _ _)⟩, Bd⟩
theorem tk_lam {X : Cx} {A : Around} {outer : List Env} {s : Shared} {H : Hp} {E : XK} {scope : Scope} {f c' : Addr} : L2N.Takes (lamN X A outer s H E scope f c') (fun cls d _ H => E cls d H) := L2N.takes_of rfl rfl rfl rfl
theorem gd_lam {G : GS} {C : Calls} {k : Nat} {hot : Nat} {X : Cx} (g : Gd G hot C k X) (hh : hot = 0) (hk : 2 ≤ k) {A : Around} {outer : List Env} {s : Shared} {H : Hp} {E : XK} {scope : Scope} {f c' : Addr} (hr : Room (k - 1) (A.deeper (LamX.lamEnv X scope s.heap.objs.size f c'))) :
    Gd G hot C.low (k - 2) (lamN X A outer s H E scope f c') where
  calm := fun _ => rfl
  un := hr.units
  nd := g.nd
  room := fun _ => by
    have e : k - 2 + 1 = k - 1 := by omega
    rw [e]; exact hr
  free := g.free
  con := g.con
  own := g.own
  isi := g.isi
  ins := g.ins
  fld := g.fld
  fn := fun f p hp => by
    have := (g.low hh f p hp).1
    have e : k - 2 + 1 = k - 1 := by omega
    rw [e]; exact this
  gl := g.gl
  mkf := fun f p hp => (g.low hh f p hp).2
  evh := fun _ => rfl
  evx := fun _ => rfl
  ex2 := fun z => by rw [hh] at z; cases z
  hx := fun z => by rw [hh] at z; cases z
  hf0 := g.hf0
  hf1 := fun _ f x m => by rw [g.hf0 hh] at m; cases m
  hf2 := fun z => by rw [hh] at z; cases z
  th1 := fun z => by rw [hh] at z; cases z
  lf0 := fun _ _ f Tt μ P Y z => z
  lfk := fun _ f x _ X' _ _ W lsc b wb p lpos pos _ _ _ _ _ => pe_false fun σ H Q h => by
    obtain ⟨_, _, _, _, _, _, h, _⟩ := h
    exact h
  low := fun _ f p hp => ⟨(g.low hh f p hp).1.no (i := f), (g.low hh f p hp).1.no (i := f)⟩
  exf := g.exf
  act := fun a T e => by cases e
  exh := fun a c e => by cases e
  mth := g.mth
  mkr := g.mkr
/-- a variable, wherever -/
theorem h_var {c : Cst} {C : Calls} {X : Cx} {W : WX} {e : E} {p : Expr} (hN : X.N = c.N) (hv : varB e = true) (h : mE c e X.env.scope p = true) : R3 X W p (wpE C e) := by
  cases e <;> try (cases hv; done)
  rename_i i
  cases p <;> try (cases h; done)
  rename_i x pos
  have h' : (decide (c.N[i]? = some x) && visB X.env.scope x && !(x == ("__debug__" : Str)) && !(x == ("__classdict__" : Str))) = true := h
  simp only [Bool.and_eq_true, decide_eq_true_eq] at h'
  obtain ⟨⟨⟨h1, h2⟩, h3⟩, h4⟩ := h'
  simp only [wpE]
  exact val3 (c_var (by rw [hN]; exact h1) (visB_ok h2) (dbg h3) (by simpa using h4)) rfl fun _ => rfl
theorem h_conds {c : Cst} {C : Calls} {X : Cx} {cs : List E} {ps : List Expr} (hN : X.N = c.N) (hv : varsB cs = true) (h : mCs c cs X.env.scope ps = true) : PTs X ps (TBs X.K (wpCs C cs)) := by
  match cs, ps, hv, h with
  | [], [], _, _ =>
    refine ⟨fun pins s σ H Q I q => pts_nil.run pins s σ H Q I ?_⟩
    obtain ⟨ρ, μ, P, q1, q2, q3, q4⟩ := q
    simp only [wpCs] at q3
    exact q4 true μ H q2 Ext.refl q3
  | [e], [p], hv, h =>
    have h' : (mE c e X.env.scope p && tstOk p) = true := h
    simp only [Bool.and_eq_true] at h'
    refine ⟨fun pins s σ H Q I q => (pts_one ((h_var (C := C) (W := W0) hN hv h'.1).pt h'.2)).run pins s σ H Q I ?_⟩
    obtain ⟨ρ, μ, P, q1, q2, q3, q4⟩ := q
    simp only [wpCs] at q3
    refine ⟨ρ, μ, _, XNo, q1, q2, q3, fun v μ1 w H1 r1 m1 e1 p1 => ?_, fun _ _ _ _ _ _ _ _ z => z⟩
    obtain ⟨b, rfl, p1⟩ := p1
    exact ⟨b, rfl, q4 b μ1 H1 m1 e1 p1⟩
mutual
theorem eE (c : Cst) : ∀ (e : E) (C : Calls) (k : Nat) (X : Cx) (W : WX) (p : Expr), Gd c.G c.hot C k X → X.N = c.N → L2N.Takes X W → mE c e X.env.scope p = true → R3 X W p (wpE C e)
  | .var i, C, k, X, W, p, g, hN, tk, h => by
    cases p <;> try (cases h; done)
    rename_i x pos
    have h' : (decide (c.N[i]? = some x) && visB X.env.scope x && !(x == ("__debug__" : Str)) && !(x == ("__classdict__" : Str))) = true := h
    simp only [Bool.and_eq_true, decide_eq_true_eq] at h'
    obtain ⟨⟨⟨h1, h2⟩, h3⟩, h4⟩ := h'
    simp only [wpE]
    exact val3 (c_var (by rw [hN]; exact h1) (visB_ok h2) (dbg h3) (by simpa using h4)) rfl fun _ => rfl
  | .cst v, C, k, X, W, p, g, hN, tk, h => by
    cases p <;> try (cases v <;> cases h; done)
    rename_i cc x pos
    simp only [wpE]
    cases v with
    | int i =>
      cases cc <;> try (cases h; done)
      have h' : (i == _) = true := h
      cases eq_of_beq h'
      exact no3 (c_con pe_int fun H => rfl) rfl rfl
    | bl i =>
      cases cc <;> try (cases h; done)
      have h' : (i == _) = true := h
      cases eq_of_beq h'
      exact no3 (c_con pe_bl fun H => rfl) rfl rfl
    | non =>
      cases cc <;> try (cases h; done)
      exact no3 (c_con pe_non fun H => rfl) rfl rfl
    | str z =>
      cases cc <;> try (cases h; done)
      rename_i y
      have h' : (decide (z = y) && decide (z.length ≤ 1000)) = true := h
      simp only [Bool.and_eq_true, decide_eq_true_eq] at h'
      obtain ⟨rfl, h2⟩ := h'
      exact no3 (c_con pe_str fun H => ⟨rfl, le_line h2⟩) rfl rfl
    | _ => cases h
  | .gc x v, C, k, X, W, p, g, hN, tk, h => by
    cases p <;> try (cases h; done)
    rename_i y pos
    have h' : (decide (x = y) && glB X.env.scope y && (c.G.consts.any fun p => decide (p.1 = x) && pvB p.2 v) && !(y == ("__debug__" : Str))) = true := h
    simp only [Bool.and_eq_true, decide_eq_true_eq, List.any_eq_true] at h'
    obtain ⟨⟨⟨rfl, h2⟩, ⟨q, q1, q2, q3⟩⟩, h4⟩ := h'
    obtain ⟨u, w, e1, e2, e3⟩ := g.con q q1
    subst q2
    have := pvB_ok q3
    subst this
    simp only [wpE]
    exact val3 (c_con (pe_glob (glB_ok h2) e1 e2 (dbg h4)) e3) rfl fun _ => rfl
  | .tup es, C, k, X, W, p, g, hN, tk, h => by
    cases p <;> try (cases h; done)
    rename_i ps kk pos
    simp only [wpE]
    exact no3 (c_tup ((eEs c es _ _ X W g hN tk).am ps h)) rfl rfl
  | .lst es, C, k, X, W, p, g, hN, tk, h => by
    cases p <;> try (cases h; done)
    rename_i ps pos
    simp only [wpE]
    exact no3 (c_lst ((eEs c es _ _ X W g hN tk).am ps h)) rfl rfl
  | .dct [] [], C, k, X, W, p, g, hN, tk, h => by
    cases p <;> try (cases h; done)
    rename_i ps qs pos
    cases ps <;> try (cases h; done)
    cases qs <;> try (cases h; done)
    simp only [wpE]
    exact no3 c_dct rfl rfl
  | .dct (_ :: _) _, C, k, X, W, p, g, hN, tk, h => by cases p <;> cases h
  | .dct [] (_ :: _), C, k, X, W, p, g, hN, tk, h => by cases p <;> cases h
  | .bin op a b, C, k, X, W, p, g, hN, tk, h => by
    cases p <;> try (cases h; done)
    rename_i p o q pos
    have h' : (decide (o = pyOp op) && mE c a X.env.scope p && mE c b X.env.scope q) = true := h
    simp only [Bool.and_eq_true, decide_eq_true_eq] at h'
    obtain ⟨⟨rfl, h2⟩, h3⟩ := h'
    simp only [wpE]
    exact no3 (c_bin (eE c a _ _ X W p g hN tk h2).pe (eE c b _ _ X W q g hN tk h3).pe) rfl rfl
  | .neg a, C, k, X, W, p, g, hN, tk, h => by
    cases p <;> try (cases h; done)
    rename_i o p pos
    cases o <;> try (cases h; done)
    simp only [wpE]
    exact no3 (c_neg (eE c a _ _ X W p g hN tk h).pe) rfl rfl
  | .not a, C, k, X, W, p, g, hN, tk, h => by
    cases p <;> try (cases h; done)
    rename_i o p pos
    cases o <;> try (cases h; done)
    have h' : (mE c a X.env.scope p && tstOk p) = true := h
    simp only [Bool.and_eq_true] at h'
    simp only [wpE]
    have r := eE c a _ _ X W p g hN tk h'.1
    exact ⟨c_not r.pe, fun _ => ct_not (r.pt h'.2), fun q => by cases q⟩
  | .and a b, C, k, X, W, p, g, hN, tk, h => by
    cases p <;> try (cases h; done)
    rename_i o ps pos
    cases o <;> try (cases h; done)
    match ps, h with
    | [p, q], h =>
      have h' : (mE c a X.env.scope p && tstOk p && (mE c b X.env.scope q && tstOk q)) = true := h
      simp only [Bool.and_eq_true] at h'
      obtain ⟨⟨h1, h2⟩, h3, h4⟩ := h'
      have ra := eE c a _ _ X W p g hN tk h1
      have rb := eE c b _ _ X W q g hN tk h3
      simp only [wpE]
      have w := cw_and (pos := pos) (ra.pt h2) (pw_and1 (pos := pos) (rb.pt h4))
      exact ⟨c_and ra.pe (pe_one rb.pe), fun _ => w.pt, fun _ => w⟩
    | p :: q :: r1 :: rs, h =>
      have h' : (mE c a X.env.scope p && tstOk p && mE c b X.env.scope (.BoolOp .And (q :: r1 :: rs) pos)) = true := h
      simp only [Bool.and_eq_true] at h'
      obtain ⟨⟨h1, h2⟩, h3⟩ := h'
      have ra := eE c a _ _ X W p g hN tk h1
      have rb := eE c b _ _ X W _ g hN tk h3
      simp only [wpE]
      have w := cw_and (pos := pos) (ra.pt h2) (rb.pw rfl)
      exact ⟨c_and ra.pe rb.pe, fun _ => w.pt, fun _ => w⟩
  | .or a b, C, k, X, W, p, g, hN, tk, h => by
    cases p <;> try (cases h; done)
    rename_i o ps pos
    cases o <;> try (cases h; done)
    match ps, h with
    | [p, q], h =>
      have h' : (mE c a X.env.scope p && tstOk p && (mE c b X.env.scope q && tstOk q)) = true := h
      simp only [Bool.and_eq_true] at h'
      obtain ⟨⟨h1, h2⟩, h3, h4⟩ := h'
      have ra := eE c a _ _ X W p g hN tk h1
      have rb := eE c b _ _ X W q g hN tk h3
      simp only [wpE]
      have w := cw_or (pos := pos) (ra.pt h2) (pw_or1 (pos := pos) (rb.pt h4))
      exact ⟨c_or ra.pe (pe_one rb.pe), fun _ => w.pt, fun _ => w⟩
    | p :: q :: r1 :: rs, h =>
      have h' : (mE c a X.env.scope p && tstOk p && mE c b X.env.scope (.BoolOp .Or (q :: r1 :: rs) pos)) = true := h
      simp only [Bool.and_eq_true] at h'
      obtain ⟨⟨h1, h2⟩, h3⟩ := h'
      have ra := eE c a _ _ X W p g hN tk h1
      have rb := eE c b _ _ X W _ g hN tk h3
      simp only [wpE]
      have w := cw_or (pos := pos) (ra.pt h2) (rb.pw rfl)
      exact ⟨c_or ra.pe rb.pe, fun _ => w.pt, fun _ => w⟩
  | .cmp op a b, C, k, X, W, p, g, hN, tk, h => by
    cases p <;> try (cases h; done)
    rename_i p os qs pos
    match os, qs, h with
    | [o], [q], h =>
      have h' : (decide (o = pyCop op) && mE c a X.env.scope p && mE c b X.env.scope q && !behindInMarks o q) = true := h
      simp only [Bool.and_eq_true, decide_eq_true_eq] at h'
      obtain ⟨⟨⟨rfl, h2⟩, h3⟩, h4⟩ := h'
      have hm : behindInMarks (pyCop op) q = false := by simpa using h4
      have ra := eE c a _ _ X W p g hN tk h2
      have rb := eE c b _ _ X W q g hN tk h3
      simp only [wpE]
      exact ⟨c_cmp g.un ra.pe rb.pe hm, fun _ => ct_cmp g.un ra.pe rb.pe hm, fun q => by cases q⟩
  | .chn op op' a b d, C, k, X, W, p, g, hN, tk, h => by
    cases p <;> try (cases h; done)
    rename_i p os qs pos
    match os, qs, h with
    | [o, o'], [q, r], h =>
      have h' : (decide (o = pyCop op) && decide (o' = pyCop op') && mE c a X.env.scope p && mE c b X.env.scope q && mE c d X.env.scope r && !lastMarks [o, o'] [q, r]) = true := h
      simp only [Bool.and_eq_true, decide_eq_true_eq] at h'
      obtain ⟨⟨⟨⟨⟨rfl, rfl⟩, h2⟩, h3⟩, h3'⟩, h4⟩ := h'
      have hm : lastMarks [pyCop op, pyCop op'] [q, r] = false := by simpa using h4
      have ra := eE c a _ _ X W p g hN tk h2
      have rb := eE c b _ _ X W q g hN tk h3
      have rc := eE c d _ _ X W r g hN tk h3'
      simp only [wpE]
      exact ⟨c_chn g.un ra.pe rb.pe rc.pe hm, fun _ => ct_chn g.un ra.pe rb.pe rc.pe hm, fun q => by cases q⟩
  | .ite t a b, C, k, X, W, p, g, hN, tk, h => by
    cases p <;> try (cases h; done)
    rename_i r p q pos
    have h' : (mE c t X.env.scope r && tstOk r && mE c a X.env.scope p && mE c b X.env.scope q) = true := h
    simp only [Bool.and_eq_true] at h'
    obtain ⟨⟨⟨h1, h2⟩, h3⟩, h4⟩ := h'
    simp only [wpE]
    exact no3 (c_ite ((eE c t _ _ X W r g hN tk h1).pt h2) (eE c a _ _ X W p g hN tk h3).pe (eE c b _ _ X W q g hN tk h4).pe) rfl rfl
  | .call f as, C, k, X, W, p, g, hN, tk, h => by
    cases p <;> try (cases h; done)
    rename_i fe es ks pos
    cases fe <;> try (cases h; done)
    rename_i x np
    cases ks <;> try (cases h; done)
    have h' : (c.G.fns.contains (f, x, none) && glB X.env.scope x && mEs c as X.env.scope es && es.all noStar && !(x == ("__debug__" : Str)) && decide (c.hot = 0)) = true := h
    simp only [Bool.and_eq_true, decide_eq_true_eq] at h'
    obtain ⟨⟨⟨⟨⟨h1, h2⟩, h3⟩, h4⟩, h5⟩, hh⟩ := h'
    have hm : (f, x, none) ∈ c.G.fns := by simpa using h1
    simp only [wpE]
    exact val3 (c_call (g.fn f (x, none) hm) (g.room hh) (glB_ok h2) (g.gl f x hm) tk (dbg h5) h4 ((eEs c as _ _ X W g hN tk).am es h3) (am0 h3)) rfl fun _ => rfl
  | .new n f as, C, k, X, W, p, g, hN, tk, h => by
    cases p <;> try (cases h; done)
    rename_i fe es ks pos
    cases fe <;> try (cases h; done)
    rename_i x np
    cases ks <;> try (cases h; done)
    have h' : (decide (x = n) && c.G.makes.contains (n, f) && glB X.env.scope x && mEs c as X.env.scope es && es.all noStar && !(x == ("__debug__" : Str)) && decide (c.hot = 0)) = true := h
    simp only [Bool.and_eq_true, decide_eq_true_eq] at h'
    obtain ⟨⟨⟨⟨⟨⟨rfl, h1⟩, h2⟩, h3⟩, h4⟩, h5⟩, hh⟩ := h'
    have hm : (x, f) ∈ c.G.makes := by simpa using h1
    obtain ⟨m1, m2, m3⟩ := g.mkr _ hm
    simp only [wpE]
    exact val3 (c_new m1 (g.mkf f _ m3) (g.room hh) (glB_ok h2) m2 tk (dbg h5) h4 ((eEs c as _ _ X W g hN tk).am es h3) (am0 h3)) rfl fun _ => rfl
  | .meth n m f o as, C, k, X, W, p, g, hN, tk, h => by
    cases p <;> try (cases h; done)
    rename_i fe es ks pos
    cases fe <;> try (cases h; done)
    rename_i p gg ap
    cases ks <;> try (cases h; done)
    have h' : (decide (gg = m) && c.G.fns.contains (f, n, some m) && c.G.meths.contains (n, m) && mE c o X.env.scope p && mEs c as X.env.scope es && es.all noStar && attB p && decide (es.length < 30) && (ap.endLine == pos.line) && decide (c.hot = 0)) = true := h
    simp only [Bool.and_eq_true, decide_eq_true_eq] at h'
    obtain ⟨⟨⟨⟨⟨⟨⟨⟨⟨rfl, h1⟩, h2⟩, h3⟩, h4⟩, h5⟩, h6⟩, h7⟩, h8⟩, hh⟩ := h'
    have hm : (f, n, some gg) ∈ c.G.fns := by simpa using h1
    have hm2 : (n, gg) ∈ c.G.meths := by simpa using h2
    obtain ⟨m1, m2, _⟩ := g.mth _ hm2
    simp only [wpE]
    exact val3 (c_meth (g.fn f _ hm) m1 m2 (g.room hh) tk h6 h5 h7 h8 (eE c o _ _ X W p g hN tk h3).pe ((eEs c as _ _ X W g hN tk).am es h4) (am0 h4)) rfl fun _ => rfl
  | .hcall f as, C, k, X, W, p, g, hN, tk, h => by
    cases p <;> try (cases h; done)
    rename_i fe es ks pos
    cases fe <;> try (cases h; done)
    rename_i x np
    cases ks <;> try (cases h; done)
    have h' : (c.G.hfs.contains (f, x) && glB X.env.scope x && mEs c as X.env.scope es && es.all noStar && !es.isEmpty && !(x == ("__debug__" : Str)) && decide (c.hot = 2)) = true := h
    simp only [Bool.and_eq_true, decide_eq_true_eq] at h'
    obtain ⟨⟨⟨⟨⟨⟨h1, h2⟩, h3⟩, h4⟩, h5⟩, h6⟩, hh⟩ := h'
    obtain ⟨a, n, e1⟩ := g.ex2 hh
    simp only [wpE, e1]
    match es, h3, h4, h5 with
    | e0 :: es, h3, h4, _ => exact val3 (g.hf2 hh f x (by simpa using h1) (a, n) e1 W e0 es _ np pos ((eEs c as _ _ X W g hN tk).am _ h3) (glB_ok h2) (dbg h6) h4) rfl fun _ => rfl
    | [], _, _, h5 => cases h5
  | .bf b as, C, k, X, W, p, g, hN, tk, h => by
    cases p <;> try (cases h; done)
    rename_i fe es ks pos
    cases fe <;> try (cases h; done)
    rename_i x np
    cases ks <;> try (cases h; done)
    have h' : (decide (x = bfName b) && c.G.free.contains x && glB X.env.scope x && mEs c as X.env.scope es && es.all noStar && !es.isEmpty && (decide (c.hot = 0) || bfCool b)) = true := h
    simp only [Bool.and_eq_true, Bool.or_eq_true, decide_eq_true_eq] at h'
    obtain ⟨⟨⟨⟨⟨⟨rfl, h1⟩, h2⟩, h3⟩, h4⟩, h5⟩, hh⟩ := h'
    simp only [wpE]
    exact val3 (c_bf (fun z => hh.elim (fun e => g.calm e) fun e => by rw [z] at e; cases e) (glB_ok h2) (glo g h1) h4 (by intro e; subst e; cases h5) ((eEs c as _ _ X W g hN tk).ar es h3)) rfl fun _ => rfl
  | .bm m o as, C, k, X, W, p, g, hN, tk, h => by
    cases p <;> try (cases h; done)
    rename_i fe es ks pos
    cases fe <;> try (cases h; done)
    rename_i p n ap
    cases ks <;> try (cases h; done)
    have h' : (decide (n = bmName m) && mE c o X.env.scope p && mEs c as X.env.scope es && es.all noStar && attB p && decide (es.length < 30) && (ap.endLine == pos.line) && bmOk.contains m) = true := h
    simp only [Bool.and_eq_true, decide_eq_true_eq] at h'
    obtain ⟨⟨⟨⟨⟨⟨⟨rfl, h1⟩, h2⟩, h3⟩, h4⟩, h5⟩, h6⟩, h7⟩ := h'
    obtain ⟨id, rr, B⟩ := bm_of (X := X) h7
    simp only [wpE]
    exact val3 (c_bm B h4 h3 h5 h6 (eE c o _ _ X W p g hN tk h1).pe ((eEs c as _ _ X W g hN tk).am es h2) (am0 h2)) rfl fun _ => rfl
  | .isi e cs ts many, C, k, X, W, p, g, hN, tk, h => by
    cases p <;> try (cases many <;> cases h; done)
    rename_i fe es ks pos
    cases fe <;> try (cases many <;> cases h; done)
    rename_i x np
    simp only [wpE]
    cases many with
    | false =>
      match es, ks, h with
      | [p, q], [], h =>
        have h' : (decide (x = ("isinstance" : Str)) && c.G.free.contains x && glB X.env.scope x && mE c e X.env.scope p && noStar p && mCls c.G X.env.scope cs [q] && cs.all c.G.asked.contains && ts.all c.G.classes.contains) = true := h
        simp only [Bool.and_eq_true, decide_eq_true_eq] at h'
        obtain ⟨⟨⟨⟨⟨⟨⟨rfl, h1⟩, h2⟩, h3⟩, h4⟩, h5⟩, h6⟩, h7⟩ := h'
        match cs, h5, h6 with
        | [cl], h5, h6 =>
          have h5' : (mCl c.G X.env.scope cl q && mCls c.G X.env.scope [] []) = true := h5
          rw [Bool.and_eq_true] at h5'
          obtain ⟨q1, q2⟩ := cl_pe g h5'.1
          have F : IsF X.K ts [cl] := ⟨fun t u ht hu => g.isi t u (ht.imp id fun ⟨d, h1, h2⟩ => ⟨d, by have := List.all_eq_true.mp h7 d h1; simpa using this, h2⟩) (by have := List.all_eq_true.mp h6 u hu; simpa using this), fun d hd => g.ins d (by have := List.all_eq_true.mp h7 d hd; simpa using this)⟩
          exact val3 (c_isi1 F (glB_ok h2) (glo g h1) (eE c e _ _ X W p g hN tk h3).pe h4 q1 q2) rfl fun _ => rfl
        | [], h5, _ => exact absurd h5 (by simp [mCls])
        | a :: b :: r, h5, _ => exact absurd h5 (by simp [mCls])
    | true =>
      match es, ks, h with
      | [p, .Tuple qs kk tp], [], h =>
        have h' : (decide (x = ("isinstance" : Str)) && c.G.free.contains x && glB X.env.scope x && mE c e X.env.scope p && noStar p && mCls c.G X.env.scope cs qs && cs.all c.G.asked.contains && ts.all c.G.classes.contains && decide (cs.length ≤ 1000)) = true := h
        simp only [Bool.and_eq_true, decide_eq_true_eq] at h'
        obtain ⟨⟨⟨⟨⟨⟨⟨⟨rfl, h1⟩, h2⟩, h3⟩, h4⟩, h5⟩, h6⟩, h7⟩, h8⟩ := h'
        have F : IsF X.K ts cs := ⟨fun t u ht hu => g.isi t u (ht.imp id fun ⟨d, h1, h2⟩ => ⟨d, by have := List.all_eq_true.mp h7 d h1; simpa using this, h2⟩) (by have := List.all_eq_true.mp h6 u hu; simpa using this), fun d hd => g.ins d (by have := List.all_eq_true.mp h7 d hd; simpa using this)⟩
        have pas : ∀ (cs : List Cl) (qs : List Expr), mCls c.G X.env.scope cs qs = true → PA X qs (fun _ H Q => Q (cs.map (clW X.K)) H) := by
          intro cs
          induction cs with
          | nil =>
            intro qs h
            cases qs with
            | nil => exact pa_nil
            | cons _ _ => cases h
          | cons cl cs ih =>
            intro qs h
            cases qs with
            | nil => cases h
            | cons q qs =>
              have h' : (mCl c.G X.env.scope cl q && mCls c.G X.env.scope cs qs) = true := h
              rw [Bool.and_eq_true] at h'
              obtain ⟨q1, q2⟩ := cl_pe g h'.1
              exact pa_cons q1 (ih qs h'.2) (star_cons _ q2)
        exact val3 (c_isiN F h8 (glB_ok h2) (glo g h1) (eE c e _ _ X W p g hN tk h3).pe h4 (pas cs qs h5)) rfl fun _ => rfl
  | .lset e, C, k, X, W, p, g, hN, tk, h => by
    cases p <;> try (cases h; done)
    rename_i fe es ks pos
    cases fe <;> try (cases h; done)
    rename_i x np
    match es, ks, h with
    | [.Call (.Name y p2) [q] [] pos2], [], h =>
      have h' : (decide (x = ("len" : Str)) && decide (y = ("set" : Str)) && c.G.free.contains x && c.G.free.contains y && glB X.env.scope x && glB X.env.scope y && mE c e X.env.scope q && noStar q && decide (c.hot = 0)) = true := h
      simp only [Bool.and_eq_true, decide_eq_true_eq] at h'
      obtain ⟨⟨⟨⟨⟨⟨⟨⟨rfl, rfl⟩, h1⟩, h2⟩, h3⟩, h4⟩, h5⟩, h6⟩, hh⟩ := h'
      simp only [wpE]
      exact val3 (c_lset (g.calm hh) (glB_ok h3) (glo g h1) (glB_ok h4) (glo g h2) (eE c e _ _ X W q g hN tk h5).pe h6) rfl fun _ => rfl
  | .oeq neg n f a b, C, k, X, W, p, g, hN, tk, h => by
    cases p <;> try (cases neg <;> cases h; done)
    rename_i p os qs pos
    cases neg with
    | true =>
      match os, qs, h with
      | [o], [q], h =>
        have h' : (decide (o = .NotEq) && c.G.fns.contains (f, n, some ("__eq__" : Str)) && c.G.meths.contains (n, ("__eq__" : Str)) && mE c a X.env.scope p && mE c b X.env.scope q && !behindInMarks o q && decide (c.hot = 0)) = true := h
        simp only [Bool.and_eq_true, decide_eq_true_eq] at h'
        obtain ⟨⟨⟨⟨⟨⟨rfl, h0⟩, h1⟩, h2⟩, h3⟩, h4⟩, hh⟩ := h'
        have hm : behindInMarks .NotEq q = false := by simpa using h4
        have hf : (f, n, some ("__eq__" : Str)) ∈ c.G.fns := by simpa using h0
        obtain ⟨m1, m2, m3⟩ := g.mth (n, "__eq__") (by simpa using h1)
        have ra := eE c a _ _ X W p g hN tk h2
        have rb := eE c b _ _ X W q g hN tk h3
        have og := g_one (m3 rfl) (g.mkf f _ hf) (g.room hh)
        have fix : ∀ {σ H Q}, T X.K W (wpE C (.oeq true n f a b)) σ H Q → T X.K W (fun ρ μ P Y => wpE C a ρ μ (fun x μ1 => wpE C b ρ μ1 (fun y μ2 => oneW (C.mk f) n x y μ2 P) Y) Y) σ H Q := fun h => by
          obtain ⟨ρ, μ, P, Y, hρ, m, h, c, cx⟩ := h
          simp only [wpE] at h
          exact ⟨ρ, μ, P, Y, hρ, m, h, c, cx⟩
        have fix2 : ∀ {σ H Q}, TB X.K W (wpE C (.oeq true n f a b)) σ H Q → TB X.K W (fun ρ μ P Y => wpE C a ρ μ (fun x μ1 => wpE C b ρ μ1 (fun y μ2 => oneW (C.mk f) n x y μ2 P) Y) Y) σ H Q := fun h => by
          obtain ⟨ρ, μ, P, Y, hρ, m, h, c, cx⟩ := h
          simp only [wpE] at h
          exact ⟨ρ, μ, P, Y, hρ, m, h, c, cx⟩
        exact ⟨(c_cmpG og ra.pe rb.pe hm).imp fun σ H Q h => fix h, fun _ => (ct_cmpG og ra.pe rb.pe hm).imp fun σ H Q h => fix2 h, fun q => by cases q⟩
    | false =>
      match os, qs, h with
      | [o], [q], h =>
        have h' : (decide (o = .Eq) && c.G.fns.contains (f, n, some ("__eq__" : Str)) && c.G.meths.contains (n, ("__eq__" : Str)) && mE c a X.env.scope p && mE c b X.env.scope q && !behindInMarks o q && decide (c.hot = 0)) = true := h
        simp only [Bool.and_eq_true, decide_eq_true_eq] at h'
        obtain ⟨⟨⟨⟨⟨⟨rfl, h0⟩, h1⟩, h2⟩, h3⟩, h4⟩, hh⟩ := h'
        have hm : behindInMarks .Eq q = false := by simpa using h4
        have hf : (f, n, some ("__eq__" : Str)) ∈ c.G.fns := by simpa using h0
        obtain ⟨m1, m2, _⟩ := g.mth (n, "__eq__") (by simpa using h1)
        have ra := eE c a _ _ X W p g hN tk h2
        have rb := eE c b _ _ X W q g hN tk h3
        have og := g_oeq m2 (g.fn f _ hf) (g.room hh)
        have fix : ∀ {σ H Q}, T X.K W (wpE C (.oeq false n f a b)) σ H Q → T X.K W (fun ρ μ P Y => wpE C a ρ μ (fun x μ1 => wpE C b ρ μ1 (fun y μ2 => oeqW (C.fn f) n x y μ2 P) Y) Y) σ H Q := fun h => by
          obtain ⟨ρ, μ, P, Y, hρ, m, h, c, cx⟩ := h
          simp only [wpE] at h
          exact ⟨ρ, μ, P, Y, hρ, m, h.2, c, cx⟩
        have fix2 : ∀ {σ H Q}, TB X.K W (wpE C (.oeq false n f a b)) σ H Q → TB X.K W (fun ρ μ P Y => wpE C a ρ μ (fun x μ1 => wpE C b ρ μ1 (fun y μ2 => oeqW (C.fn f) n x y μ2 P) Y) Y) σ H Q := fun h => by
          obtain ⟨ρ, μ, P, Y, hρ, m, h, c, cx⟩ := h
          simp only [wpE] at h
          exact ⟨ρ, μ, P, Y, hρ, m, h.2, c, cx⟩
        exact ⟨(c_cmpG og ra.pe rb.pe hm).imp fun σ H Q h => fix h, fun _ => (ct_cmpG og ra.pe rb.pe hm).imp fun σ H Q h => fix2 h, fun q => by cases q⟩
  | .fld n o f, C, k, X, W, p, g, hN, tk, h => by
    cases p <;> try (cases h; done)
    rename_i p gg pos
    have h' : (decide (f = gg) && c.G.flds.contains (n, f) && mE c o X.env.scope p && noCallE p) = true := h
    simp only [Bool.and_eq_true, decide_eq_true_eq] at h'
    obtain ⟨⟨⟨rfl, h1⟩, h2⟩, h3⟩ := h'
    obtain ⟨m1, m2⟩ := g.fld (n, f) (by simpa using h1)
    simp only [wpE]
    exact val3 (c_fld (eE c o _ _ X W p g hN tk h2).pe (by cases p <;> first | rfl | cases h3) m1 m2) rfl fun _ => rfl
  | .idx o i, C, k, X, W, p, g, hN, tk, h => by
    cases p <;> try (cases h; done)
    rename_i p q pos
    have h' : (mE c o X.env.scope p && mE c i X.env.scope q && plainIxE q) = true := h
    simp only [Bool.and_eq_true] at h'
    obtain ⟨⟨h1, h2⟩, h3⟩ := h'
    simp only [wpE]
    exact val3 (c_idx (eE c o _ _ X W p g hN tk h1).pe (eE c i _ _ X W q g hN tk h2).pe (ix_ok h3)) rfl fun _ => rfl
  | .slc o lo hi, C, k, X, W, p, g, hN, tk, h => by
    cases p <;> try (cases h; done)
    rename_i p q pos
    cases q <;> try (cases h; done)
    rename_i l u st p2
    cases st <;> try (cases h; done)
    have h' : (mE c o X.env.scope p && mO c lo X.env.scope l && mO c hi X.env.scope u) = true := h
    simp only [Bool.and_eq_true] at h'
    obtain ⟨⟨h1, h2⟩, h3⟩ := h'
    simp only [wpE]
    exact val3 (c_slc (eE c o _ _ X W p g hN tk h1).pe (eO c lo _ _ X W l g hN tk h2) (eO c hi _ _ X W u g hN tk h3)) rfl fun _ => rfl
  | .comp ik src tg own cond elt, C, k, X, W, p, g, hN, tk, h => by
    cases p <;> try (cases h; done)
    rename_i pe gs scope pos
    match gs, h with
    | [⟨pt, pi, pf, 0⟩], h =>
      have h' : ((match (if c.hot = 0 then ikArgs c.G ik X.env.scope pt pi else hotArgs c.G ik X.env.scope pt pi) with | some ps => mEs c src X.env.scope ps | none => false) && noSet pi && mTg c.N (relS scope X.env.scope) (fun x => scope.names.lookup x == some .cell) tg pt && (tgV tg).all own.contains && blkC c.N X.env.scope scope (own.filterMap fun i => (c.N[i]?).map fun x => (x, i)) &&
        decide ((own.filterMap fun i => (c.N[i]?).map fun x => (x, i)).map (·.2) = own) && mCs c cond (relS scope X.env.scope) pf && mE c elt (relS scope X.env.scope) pe && (decide (c.hot = 0) || (decide (c.hot = 2) && varsB cond && varB elt))) = true := h
      simp only [Bool.and_eq_true, Bool.or_eq_true, decide_eq_true_eq] at h'
      obtain ⟨⟨⟨⟨⟨⟨⟨⟨h1, h2⟩, h3⟩, h4⟩, h5⟩, h6⟩, h7⟩, h8⟩, hh⟩ := h'
      generalize hown : (own.filterMap fun i => (c.N[i]?).map fun x => (x, i)) = own' at h5 h6
      cases hk : (if c.hot = 0 then ikArgs c.G ik X.env.scope pt pi else hotArgs c.G ik X.env.scope pt pi) with
      | none => rw [hk] at h1; cases h1
      | some ps =>
        rw [hk] at h1
        subst h6
        simp only [wpE]
        rcases hh with hh | ⟨⟨hh, hc⟩, he⟩
        rotate_left
        · rw [if_neg (by rw [hh]; decide)] at hk
          have hpi := hot_pi g (eEs c src _ _ X W g hN tk) hk h1
          obtain ⟨p, hp, hpn⟩ := g.hx hh
          refine no3 (c_compH hp hpn g.nd hpi (by rw [hN]; exact blkOk_by h5) (fun i hi => by have := List.all_eq_true.mp h4 i hi; simpa using this) (fun s H C cl fp => ?_) (fun s H C cl fp => ?_) (fun s H C cl fp => ?_) (set_ok h2)) rfl rfl
          · refine pg_g (X := blkP X p s H scope (compEnvC scope cl C X.env) fp) (unp_hot ⟨p, hp, List.mem_cons_self⟩) g.nd (df := fun x => scope.names.lookup x == some .cell) (fun x z => z) tg pt ?_
            show mTg X.N (relS scope X.env.scope) (fun x => scope.names.lookup x == some .cell) tg pt = true
            rw [hN]
            exact h3
          · exact h_conds (X := blkP X p s H scope (compEnvC scope cl C X.env) fp) hN hc h7
          · exact (h_var (X := blkP X p s H scope (compEnvC scope cl C X.env) fp) (W := W0) hN he h8).pe
        rw [if_pos hh] at hk
        have hpi := ik_pi g (eEs c src _ _ X W g hN tk) hk h1
        refine no3 (c_comp (g.calm hh) g.nd hpi (by rw [hN]; exact blkOk_by h5) (fun i hi => by have := List.all_eq_true.mp h4 i hi; simpa using this) (fun s H C cl fp => ?_) (fun s H C cl fp => ?_) (fun s H C cl fp => ?_) (set_ok h2)) rfl rfl
        · refine pg_g (X := X.blk s H scope (compEnvC scope cl C X.env) fp) (unp_calm (g.calm hh)) g.nd (df := fun x => scope.names.lookup x == some .cell) (fun x z => z) tg pt ?_
          show mTg X.N (relS scope X.env.scope) (fun x => scope.names.lookup x == some .cell) tg pt = true
          rw [hN]
          exact h3
        · exact eCs c cond _ _ _ pf (g.blk hh (by rfl) (by rfl)) hN h7
        · exact (eE c elt _ _ _ W0 pe (g.blk hh (by rfl) (by rfl)) hN tk0 h8).pe
  | .lam i cap, C, k, X, W, p, g, hN, tk, h => by cases p <;> cases h
  | .callv f as, C, k, X, W, p, g, hN, tk, h => by cases p <;> cases h
  | .isx e cl, C, k, X, W, p, g, hN, tk, h => by
    cases p <;> try (cases h; done)
    rename_i fe es ks pos
    cases fe <;> try (cases h; done)
    rename_i x np
    match es, ks, h with
    | [p, q], [], h =>
      have h' : (decide (x = ("isinstance" : Str)) && c.G.free.contains x && glB X.env.scope x && mE c e X.env.scope p && noStar p && mXc c.G X.env.scope cl q && c.G.exask.contains cl && decide (c.hot = 2)) = true := h
      simp only [Bool.and_eq_true, decide_eq_true_eq] at h'
      obtain ⟨⟨⟨⟨⟨⟨⟨rfl, h1⟩, h2⟩, h3⟩, h4⟩, h5⟩, h6⟩, h7⟩ := h'
      simp only [wpE]
      obtain ⟨a, n, e1⟩ := g.ex2 h7
      obtain ⟨m1, m2⟩ := g.exh a n e1
      obtain ⟨q1, q2⟩ := xc_pe g h5
      exact val3 (c_isx (C := C) (u := .non) (D := 0) e1 m2 (g.exf.isk n m1 cl (by simpa using h6)) (glB_ok h2) (glo g h1) (eE c e _ _ X W p g hN tk h3).pe h4 q1 q2) rfl fun _ => rfl
  | .flat i j own s, C, k, X, W, p, g, hN, tk, h => by
    cases p <;> try (cases h; done)
    rename_i pe gs scope pos
    match pe, gs, h with
    | .Name y py, [⟨.Name x px, pi, [], 0⟩, ⟨.Name y2 py2, .Name x2 px2, [], 0⟩], h =>
      have h' : (decide (c.hot = 0) && mE c s X.env.scope pi && noSet pi && decide (y2 = y) && decide (x2 = x) && !decide (i = j) && own.contains i && own.contains j &&
        mTg c.N (relS scope X.env.scope) (fun x => scope.names.lookup x == some .cell) (.nm i) (.Name x px) && mTg c.N (relS scope X.env.scope) (fun x => scope.names.lookup x == some .cell) (.nm j) (.Name y2 py2) && visB (relS scope X.env.scope) x && visB (relS scope X.env.scope) y &&
        !(x == ("__debug__" : Str)) && !(x == ("__classdict__" : Str)) && !(y == ("__debug__" : Str)) && !(y == ("__classdict__" : Str)) &&
        blkC c.N X.env.scope scope (own.filterMap fun i => (c.N[i]?).map fun x => (x, i)) && decide ((own.filterMap fun i => (c.N[i]?).map fun x => (x, i)).map (·.2) = own)) = true := h
      simp only [Bool.and_eq_true, decide_eq_true_eq] at h'
      obtain ⟨⟨⟨⟨⟨⟨⟨⟨⟨⟨⟨⟨⟨⟨⟨⟨⟨hh, h1⟩, h2⟩, rfl⟩, rfl⟩, h4⟩, h5⟩, h6⟩, h7⟩, h8⟩, h9⟩, h10⟩, d1⟩, d2⟩, d3⟩, d4⟩, h11⟩, h12⟩ := h'
      generalize hown : (own.filterMap fun i => (c.N[i]?).map fun x => (x, i)) = own' at h11 h12
      subst h12
      have k7 : (decide (c.N[i]? = some x2) && lkB (relS scope X.env.scope) x2 (if (scope.names.lookup x2 == some .cell) = true then [.local, .cell] else [.local])) = true := h7
      have k8 : (decide (c.N[j]? = some y2) && lkB (relS scope X.env.scope) y2 (if (scope.names.lookup y2 == some .cell) = true then [.local, .cell] else [.local])) = true := h8
      rw [Bool.and_eq_true, decide_eq_true_eq] at k7 k8
      simp only [wpE]
      refine no3 (c_flat (g.calm hh) g.nd (eE c s _ _ X W pi g hN tk h1).pe (by rw [hN]; exact blkOk_by h11) (by simpa using h5) (by simpa using h6) (by simpa using h4) (by rw [hN]; exact k7.1) (by rw [hN]; exact k8.1)
        (fun s H C cl fp => loc_of (N := X.N) (X := X.blk s H scope (compEnvC scope cl C X.env) fp) k7.2 fun z => z) (fun s H C cl fp => loc_of (N := X.N) (X := X.blk s H scope (compEnvC scope cl C X.env) fp) k8.2 fun z => z)
        (fun s H C cl fp => visB_ok h9) (fun s H C cl fp => visB_ok h10) (dbg d1) (by simpa using d2) (dbg d3) (by simpa using d4) (set_ok h2)) rfl rfl
  | .act i, C, k, X, W, p, g, hN, tk, h => by
    cases p <;> try (cases h; done)
    rename_i fe es ks pos
    cases fe <;> try (cases h; done)
    rename_i x np
    match es, ks, h with
    | [], [], h =>
      have h' : (decide (i = 0) && decide (c.N[0]? = some x) && decide (c.hot = 1)) = true := h
      simp only [Bool.and_eq_true, decide_eq_true_eq] at h'
      obtain ⟨⟨rfl, h1⟩, h2⟩ := h'
      simp only [wpE]
      obtain ⟨a, Tt, e1⟩ := g.th1 h2
      refine val3 ((g.act a Tt e1 X.pn X.xe W x np pos (by rw [hN]; exact h1) tk).imp fun σ H Q q => ?_) rfl fun _ => rfl
      obtain ⟨ρ, μ, P, Y, hρ, m, q, c0, cx⟩ := q
      obtain ⟨a', T', r1, r2, r3⟩ := q
      rw [e1] at r2
      cases r2
      exact ⟨ρ, μ, P, Y, hρ, m, ⟨r1, r3⟩, c0, cx⟩
  | .lamc f body, C, k, X, W, p, g, hN, tk, h => by
    cases p <;> try (cases h; done)
    rename_i fe es ks pos
    cases fe <;> try (cases h; done)
    rename_i x np
    match es, ks, h with
    | [.Lambda ps b lsc lpos], [], h =>
      have h' : (decide (c.hot = 0) && c.G.lfs.contains (f, x) && glB X.env.scope x && !(x == ("__debug__" : Str)) && lamB ps && LamX.lamSB X.env.scope lsc && mE c body lsc b) = true := h
      simp only [Bool.and_eq_true, decide_eq_true_eq] at h'
      obtain ⟨⟨⟨⟨⟨⟨h0, h1⟩, h2⟩, h3⟩, h4⟩, h5⟩, h6⟩ := h'
      simp only [wpE]
      have e1 := lamB_ok h4
      subst e1
      rcases Nat.lt_or_ge k 2 with hk | hk
      · exact val3 (pe_false fun σ H Q q => by
          obtain ⟨ρ, μ, P, Y, hρ, m, q, _⟩ := q
          exact g.lf0 h0 hk _ _ _ _ _ q) rfl fun _ => rfl
      refine val3 (g.lfk h0 f x (by simpa using h1) X LikeX.refl (g.room h0) W lsc b (wpE C.low body) np lpos pos tk (glB_ok h2) (dbg h3) (LamX.lamS_by h5) fun A outer s H E fa c' hr => ?_) rfl fun _ => rfl
      exact (eE c body C.low (k - 2) _ _ b (gd_lam g h0 hk hr) hN (tk_lam) h6).pe
theorem eEs (c : Cst) : ∀ (es : List E) (C : Calls) (k : Nat) (X : Cx) (W : WX), Gd c.G c.hot C k X → X.N = c.N → L2N.Takes X W → L3 c C k X W es
  | [], C, k, X, W, g, hN, tk => by
    refine ⟨fun ps h => ?_, fun ps h => ?_, (fun e h => by cases h), (fun e e' h => by cases h), (fun e r h => by cases h)⟩
    · cases ps with
      | nil => simp only [wpEs]; exact am_nil
      | cons _ _ => cases h
    · cases ps with
      | nil => simp only [wpRs]; exact ar_nil
      | cons _ _ => cases h
  | e :: es, C, k, X, W, g, hN, tk => by
    refine ⟨fun ps h => ?_, fun ps h => ?_, fun e' h p hp => ?_, fun e' e2 h p hp => ?_, fun e' r h p hp => ?_⟩
    · cases ps with
      | nil => cases h
      | cons p ps =>
        have h' : (mE c e X.env.scope p && noStar p && mEs c es X.env.scope ps) = true := h
        simp only [Bool.and_eq_true] at h'
        simp only [wpEs]
        exact am_cons (eE c e _ _ X W p g hN tk h'.1.1).pe ((eEs c es _ _ X W g hN tk).am ps h'.2) h'.1.2
    · cases ps with
      | nil => cases h
      | cons p ps =>
        have h' : (mE c e X.env.scope p && noStar p && mEs c es X.env.scope ps) = true := h
        simp only [Bool.and_eq_true] at h'
        simp only [wpRs]
        exact ar_cons (eE c e _ _ X W p g hN tk h'.1.1).pe ((eEs c es _ _ X W g hN tk).ar ps h'.2) h'.1.2
    · injection h with h1 h2
      subst h1
      exact eE c e _ _ X W p g hN tk hp
    · injection h with h1 h2
      subst h1
      exact (eEs c es _ _ X W g hN tk).one e2 h2 p hp
    · injection h with h1 h2
      subst h1
      exact eE c e _ _ X W p g hN tk hp
theorem eO (c : Cst) : ∀ (o : Option E) (C : Calls) (k : Nat) (X : Cx) (W : WX) (p : Option Expr), Gd c.G c.hot C k X → X.N = c.N → L2N.Takes X W → mO c o X.env.scope p = true → L2.PO X p (TOo X.K W (wpO C o))
  | none, C, k, X, W, p, g, hN, tk, h => by
    cases p with
    | none => simp only [wpO]; exact oo_none
    | some _ => cases h
  | some e, C, k, X, W, p, g, hN, tk, h => by
    cases p with
    | none => cases h
    | some p => simp only [wpO]; exact oo_some (eE c e _ _ X W p g hN tk h).pe
theorem eCs (c : Cst) : ∀ (cs : List E) (C : Calls) (k : Nat) (X : Cx) (ps : List Expr), Gd c.G c.hot C k X → X.N = c.N → mCs c cs X.env.scope ps = true → PTs X ps (TBs X.K (wpCs C cs))
  | [], C, k, X, ps, g, hN, h => by
    cases ps with
    | nil =>
      refine ⟨fun pins s σ H Q I q => pts_nil.run pins s σ H Q I ?_⟩
      obtain ⟨ρ, μ, P, q1, q2, q3, q4⟩ := q
      simp only [wpCs] at q3
      exact q4 true μ H q2 Ext.refl q3
    | cons _ _ => cases h
  | [e], C, k, X, ps, g, hN, h => by
    match ps, h with
    | [p], h =>
      have h' : (mE c e X.env.scope p && tstOk p) = true := h
      simp only [Bool.and_eq_true] at h'
      refine ⟨fun pins s σ H Q I q => (pts_one ((eE c e _ _ X W0 p g hN tk0 h'.1).pt h'.2)).run pins s σ H Q I ?_⟩
      obtain ⟨ρ, μ, P, q1, q2, q3, q4⟩ := q
      simp only [wpCs] at q3
      refine ⟨ρ, μ, _, XNo, q1, q2, q3, fun v μ1 w H1 r1 m1 e1 p1 => ?_, fun _ _ _ _ _ _ _ _ z => z⟩
      obtain ⟨b, rfl, p1⟩ := p1
      exact ⟨b, rfl, q4 b μ1 H1 m1 e1 p1⟩
  | e :: e' :: es, C, k, X, ps, g, hN, h => by
    match ps, h with
    | [], h => cases h
    | [p], h => cases h
    | p :: q :: r, h => cases h
end
end
end G

namespace G
open PySem PySem.Spec PyProof.Rows L2
variable [tb : Tb]

def isCompE : Expr → Bool
  | .ListComp .. => true
  | .SetComp .. => true
  | .DictComp .. => true
  | _ => false
theorem sw_no {e : Expr} {t : Option Expr} {l : Nat} {env : Env} (h : isCompE e = false) : swapsWith e t l env = pure false := by
  cases e <;> first | rfl | cases h
theorem sw_cell {e : Expr} {x : Str} {p : Pos} {l : Nat} {env : Env} (h : env.scope.names.lookup x = some .cell) : swapsWith e (some (.Name x p)) l env = pure false := by
  have k : env.kindOf x = some .cell := h
  cases e <;> first | rfl | (unfold swapsWith; simp only [k]; simp; rw [show (NameKind.cell == NameKind.local) = false from rfl]; simp)
theorem sw_at {e o : Expr} {f : Str} {p : Pos} {l : Nat} {env : Env} : swapsWith e (some (.Attribute o f p)) l env = pure false := by
  cases e <;> rfl
theorem sw_sub {e o i : Expr} {p : Pos} {l : Nat} {env : Env} : swapsWithSole [.Subscript o i p] e l env = pure false := by
  cases e <;> rfl
theorem sw_tup {e : Expr} {es : List Expr} {k : Nat} {p : Pos} {l : Nat} {env : Env} : swapsWithSole [.Tuple es k p] e l env = pure false := by
  cases e <;> rfl
theorem st_sub {e o i : Expr} {p : Pos} {env : Env} : swappedStores [.Subscript o i p] e env = pure none := rfl
def isFunK (sc : Scope) : Bool := match sc.kind with
  | .function => true
  | _ => false
theorem isFunK_ok {sc : Scope} (h : isFunK sc = true) : sc.kind = .function := by
  unfold isFunK at h
  split at h
  · assumption
  · cases h
/-- the stores of a tuple assignment are not swapped -/
def cellB (sc : Scope) : Expr → Bool
  | .Name x _ => lkB sc x [.cell]
  | .Tuple .. => true
  | _ => false
def stNoB (sc : Scope) (ts : List Expr) : Expr → Bool
  | .Tuple vs _ _ => !(ts.length == 2 || ts.length == 3) || vs.all (foldedForSure 8) || ts.any (cellB sc)
  | _ => true
theorem lk_cell {sc : Scope} {x : Str} (h : lkB sc x [.cell] = true) : sc.names.lookup x = some .cell := by
  unfold lkB at h
  split at h
  · rename_i k e
    rw [e]
    cases k <;> first | rfl | cases h
  · cases h
theorem st_no {ts : List Expr} {k : Nat} {p : Pos} {e : Expr} {env : Env} (h : stNoB env.scope ts e = true) : swappedStores [.Tuple ts k p] e env = pure none := by
  cases e with
  | Tuple vs k2 p2 =>
    have h' : (!(ts.length == 2 || ts.length == 3) || vs.all (foldedForSure 8) || ts.any (cellB env.scope)) = true := h
    unfold swappedStores
    simp only
    rw [Bool.or_eq_true, Bool.or_eq_true] at h'
    rcases h' with (h' | h') | h'
    · simp [h']
    · simp only [h', if_true]
      split
      · rfl
      · split
        · rfl
        · split <;> rfl
    · split
      · rfl
      · split
        · rfl
        · split
          · rfl
          · rename_i hn
            exfalso
            apply hn
            rw [Bool.or_eq_true]
            left
            rw [bne_iff_ne]
            intro he
            have ha := List.filterMap_length_eq_length.mp he
            obtain ⟨q, hq, hc⟩ := List.any_eq_true.mp h'
            have := ha q hq
            cases q with
            | Name x px =>
              have kx : env.kindOf x = some .cell := lk_cell hc
              dsimp only at this
              rw [kx] at this
              simp at this
            | Tuple _ _ _ => simp at this
            | _ => cases hc
  | _ => rfl
def par2B (sc : Scope) (x y : Str) (px py : Pos) (a b : Expr) : Bool :=
  isFunK sc && lkB sc x [.local] && lkB sc y [.local] && !(x == y) && (px.line == py.line) && noStar a && noStar b && !([a, b].all (foldedForSure 8)) && !([a, b].all (constantsAlone 8))
theorem lk_loc {sc : Scope} {x : Str} (h : lkB sc x [.local] = true) : sc.names.lookup x = some .local := by
  unfold lkB at h
  split at h
  · rename_i k e
    rw [e]
    cases k <;> first | rfl | cases h
  · cases h
theorem par2_ok {x y : Str} {px py pt pt2 : Pos} {kt k2 : Nat} {a b : Expr} {env : Env} (h : par2B env.scope x y px py a b = true) :
    swappedStores [.Tuple [.Name x px, .Name y py] kt pt] (.Tuple [a, b] k2 pt2) env = pure (some [x, y]) := by
  unfold par2B at h
  simp only [Bool.and_eq_true] at h
  obtain ⟨⟨⟨⟨⟨⟨⟨⟨h1, h2⟩, h3⟩, h4⟩, h5⟩, h6⟩, h7⟩, h8⟩, h9⟩ := h
  have kx : env.kindOf x = some .local := lk_loc h2
  have ky : env.kindOf y = some .local := lk_loc h3
  have hb : env.blockKind = .function := by unfold Env.blockKind; rw [isFunK_ok h1]; rfl
  have hxy : (x == y) = false := by simpa using h4
  have hl : (py.line == px.line) = true := by rw [beq_iff_eq] at h5 ⊢; exact h5.symm
  have h8' : ([a, b].all (foldedForSure 8)) = false := by rw [Bool.not_eq_true'] at h8; exact h8
  have h9' : ([a, b].all (constantsAlone 8)) = false := by rw [Bool.not_eq_true'] at h9; exact h9
  have hyx : (y == x) = false := by rw [beq_eq_false_iff_ne] at hxy ⊢; exact fun e => hxy e.symm
  unfold swappedStores
  simp only [h8', h9', List.length_cons, List.length_nil, hb]
  simp only [List.any_cons, List.any_nil, Bool.or_false]
  have hl2 : py.line = px.line := by simpa using hl
  split
  · rename_i hh
    exact absurd hh (by decide)
  split
  · cases h6
  split
  · cases h7
  simp [List.filterMap, kx, ky, hl2, List.eraseDups, List.eraseDupsBy, List.eraseDupsBy.loop, hyx, hxy, Expr.pos]
def par3B (sc : Scope) (x y z : Str) (px py pz : Pos) (a b d : Expr) : Bool :=
  isFunK sc && lkB sc x [.local] && lkB sc y [.local] && lkB sc z [.local] && !(x == y) && !(x == z) && !(y == z) && (px.line == py.line) && (px.line == pz.line) && noStar a && noStar b && noStar d && !([a, b, d].all (foldedForSure 8)) && !([a, b, d].all (constantsAlone 8))
theorem par3_ok {x y z : Str} {px py pz pt pt2 : Pos} {kt k2 : Nat} {a b d : Expr} {env : Env} (h : par3B env.scope x y z px py pz a b d = true) :
    swappedStores [.Tuple [.Name x px, .Name y py, .Name z pz] kt pt] (.Tuple [a, b, d] k2 pt2) env = pure (some [x, y, z]) := by
  unfold par3B at h
  simp only [Bool.and_eq_true] at h
  obtain ⟨⟨⟨⟨⟨⟨⟨⟨⟨⟨⟨⟨⟨h1, h2⟩, h3⟩, h3'⟩, h4⟩, h4'⟩, h4''⟩, h5⟩, h5'⟩, h6⟩, h7⟩, h7'⟩, h8⟩, h9⟩ := h
  have kx : env.kindOf x = some .local := lk_loc h2
  have ky : env.kindOf y = some .local := lk_loc h3
  have kz : env.kindOf z = some .local := lk_loc h3'
  have hb : env.blockKind = .function := by unfold Env.blockKind; rw [isFunK_ok h1]; rfl
  have hxy : (x == y) = false := by simpa using h4
  have hxz : (x == z) = false := by simpa using h4'
  have hyz : (y == z) = false := by simpa using h4''
  have hl : py.line = px.line := by rw [beq_iff_eq] at h5; exact h5.symm
  have hl' : pz.line = px.line := by rw [beq_iff_eq] at h5'; exact h5'.symm
  have h8' : ([a, b, d].all (foldedForSure 8)) = false := by rw [Bool.not_eq_true'] at h8; exact h8
  have h9' : ([a, b, d].all (constantsAlone 8)) = false := by rw [Bool.not_eq_true'] at h9; exact h9
  have hyx : (y == x) = false := by rw [beq_eq_false_iff_ne] at hxy ⊢; exact fun e => hxy e.symm
  have hzx : (z == x) = false := by rw [beq_eq_false_iff_ne] at hxz ⊢; exact fun e => hxz e.symm
  have hzy : (z == y) = false := by rw [beq_eq_false_iff_ne] at hyz ⊢; exact fun e => hyz e.symm
  unfold swappedStores
  simp only [h8', h9', List.length_cons, List.length_nil, hb]
  simp only [List.any_cons, List.any_nil, Bool.or_false]
  split
  · rename_i hh
    exact absurd hh (by decide)
  split
  · cases h6
  split
  · cases h7
  split
  · cases h7'
  simp [List.filterMap, kx, ky, kz, hl, hl', List.eraseDups, List.eraseDupsBy, List.eraseDupsBy.loop, hyx, hxy, hxz, hyz, hzx, hzy, Expr.pos]

def swLcB (sc : Scope) (x : Str) (px : Pos) : Expr → Bool
  | .ListComp _ [_] scope vp => isFunK sc && lkB sc x [.local] && (px.line == vp.line) && !(scope.names.any fun (n, k) => n == x && (k == .local || k == .cell))
  | _ => false
def mPar (N : List Str) (sc : Scope) : List Nat → List Expr → List Expr → Bool
  | [i, j], [.Name x px, .Name y py], [a, b] => decide (N[i]? = some x) && decide (N[j]? = some y) && !(i == j) && par2B sc x y px py a b
  | [i, j, l], [.Name x px, .Name y py, .Name z pz], [a, b, d] => decide (N[i]? = some x) && decide (N[j]? = some y) && decide (N[l]? = some z) && !(i == j) && !(i == l) && !(j == l) && par3B sc x y z px py pz a b d
  | _, _, _ => false
mutual
def mS (c : Cst) (sc : Scope) : S → Stmt → Bool
  | .set i e, .Assign [.Name x px] p _ => decide (c.N[i]? = some x) && lkB sc x [.local, .cell] && mE c e sc p && (!isCompE p || swLcB sc x px p || lkB sc x [.cell])
  | .setT ts e, .Assign [.Tuple qs kk pt] p _ => decide (c.hot = 0) && mTg c.N sc (fun _ => true) (.tp ts) (.Tuple qs kk pt) && mE c e sc p && stNoB sc qs p
  | .par is es, .Assign [.Tuple qs _ _] (.Tuple vs _ _) _ => decide (c.hot = 0) && mPar c.N sc is qs vs && mEs c es sc vs
  | .sub o i e, .Assign [.Subscript q r _] p _ => mE c e sc p && mE c o sc q && mE c i sc r && plainIxE r
  | .att n o f e, .Assign [.Attribute q g _] p _ => decide (f = g) && c.G.flds.contains (n, f) && mE c e sc p && mE c o sc q
  | .ex e, .Expr p _ => mE c e sc p && !isCompE p
  | .ret e, .Return (some p) _ => mE c e sc p
  | .retN, .Return none _ => true
  | .iff t a b, .If p sa sb _ => mE c t sc p && tstOk p && mSs c sc a sa && mSs c sc b sb
  | .loop k src tg body, .For q p ss [] _ => decide (c.hot = 0) && (match ikArgs c.G k sc q p with | some ps => mEs c src sc ps | none => false) && noSet p && mTg c.N sc (fun _ => true) tg q && mSs c sc body ss
  | .whl t body, .While p ss [] _ => mE c t sc p && tstOk p && mSs c sc body ss
  | .brk, .Break _ => true
  | .cont, .Continue _ => true
  | .pass, .Pass _ => true
  | .never, _ => true
  | .raise n none [], .Raise (some (.Call (.Name x _) [] [] _)) none _ => decide (n = x) && glB sc x && c.G.excs.contains x && !(x == ("__debug__" : Str)) && decide (c.hot = 0)
  | .raise _ (some _) _, .Raise .. => true
  | .raise _ none (_ :: _), .Raise .. => true
  | .try_ xs body n (some i) (s0 :: su), .Try tb [.ExceptHandler (some (.Name x _)) (some y) (b0 :: bs) _] [] [] _ => xs.all c.G.excs.contains && decide (n = x) && glB sc x && c.G.excs.contains x && !(x == ("__debug__" : Str)) && decide (c.N[i]? = some y) && lkB sc y [.local] && decide (c.hot ≤ 1) &&
      mSs c sc body tb && mSs ⟨c.G, c.N, 2⟩ sc (s0 :: su) (b0 :: bs)
  | _, _ => false
def mSs (c : Cst) (sc : Scope) : List S → List Stmt → Bool
  | [], [] => true
  | s :: ss, t :: ts => mS c sc s t && mSs c sc ss ts
  | _, _ => false
end
section
variable {G : GS} {hot : Nat} {C : Calls} {k : Nat} {X : Cx}
theorem Gd.tr (g : Gd G hot C k X) (h : hot ≤ 1) (pn : List (Addr × Obj)) (xe : Value → Shared → Prop) : Gd G hot C k (X.tr pn xe) where
  calm := g.calm
  un := g.un
  nd := g.nd
  room := g.room
  free := g.free
  con := g.con
  own := g.own
  isi := g.isi
  ins := g.ins
  fld := g.fld
  fn := g.fn
  gl := g.gl
  mkf := g.mkf
  evh := g.evh
  evx := g.evx
  ex2 := g.ex2
  hx := fun z => by rw [z] at h; exact absurd h (by decide)
  hf0 := g.hf0
  hf1 := fun h f x m a oe cl pn2 h1 h2 h3 => g.hf1 h f x m a oe cl pn2 h1 h2 h3
  hf2 := fun z => by rw [z] at h; exact absurd h (by decide)
  th1 := g.th1
  lf0 := g.lf0
  lfk := fun h f x m X' l r => g.lfk h f x m X' (LikeX.trans (Y := X.tr pn xe) ⟨rfl, rfl, rfl, rfl, rfl, rfl, rfl⟩ l) r
  low := g.low
  exf := g.exf
  act := fun a T e pn2 xe2 => g.act a T e pn2 xe2
  exh := fun a c e => by rw [g.evx h] at e; cases e
  mth := g.mth
  mkr := g.mkr
theorem Gd.su (g : Gd G hot C k X) (hle : hot ≤ 1) {a : Addr} {oe : Obj} {cl : Str} {pn : List (Addr × Obj)} (hcl : cl ∈ G.excs) (hz : L2N.Zn (.ref (He.ga X.K cl)) none oe) (hv : ∃ vs, oe.data = .fields vs) : Gd G 2 (C.wx (a, cl)) k (X.suite a ((a, oe) :: pn)) where
  calm := fun z => by cases z
  un := g.un
  nd := g.nd
  room := fun z => by cases z
  free := g.free
  con := g.con
  own := g.own
  isi := g.isi
  ins := g.ins
  fld := g.fld
  fn := g.fn
  gl := g.gl
  mkf := g.mkf
  evh := fun z => by cases z
  evx := fun z => absurd z (by decide)
  ex2 := fun _ => ⟨a, cl, rfl⟩
  hf0 := fun z => by cases z
  hf1 := fun z => absurd z (by decide)
  hf2 := fun _ f x m p e => by
    cases e
    exact g.hf1 hle f x m a oe cl pn hcl hz hv
  hx := fun _ => by
    obtain ⟨vs, hd⟩ := hv
    exact ⟨(a, oe), ⟨rfl, vs, hd, hz.2.2 vs hd⟩, List.mem_cons_self⟩
  th1 := fun z => by cases z
  lf0 := fun z => by cases z
  lfk := fun z => by cases z
  low := fun z => by cases z
  exf := g.exf
  act := fun a T e => by cases e
  exh := fun a' c e => by
    cases e
    exact ⟨hcl, call_isE (g.exf.cl cl hcl) hz.zc hv⟩
  mth := g.mth
  mkr := g.mkr
theorem tk_suite {a : Addr} {pn : List (Addr × Obj)} : L2N.Takes (X.suite a pn) (fun _ _ _ _ => False) := fun _ _ x => by
  obtain ⟨_, _, _, _, _, _, _, _, _, _, _, _, _, _, _, _, w⟩ := x
  exact w.elim
theorem ps_suite {a : Addr} : PassesOwn (model X.prog X.w) (X.A.mark (some (.ref a))) X.env (fun _ _ => False) := PassesOwn.never
end
section
variable {C : Calls} {k : Nat}
structure SF (c : Cst) (C : Calls) (k : Nat) (X : Cx) (W : WX) : Prop where
  hs : X.stack = X.env :: X.outer
  hf : X.env.frame = some X.env.locals
  gd : Gd c.G c.hot C k X
  hN : X.N = c.N
  tk : L2N.Takes X W
  ps : PassesOwn (model X.prog X.w) X.A X.env X.xe
  fn : ∀ x, X.fn x = true
theorem ix_lt {c : Cst} {X : Cx} (hN : X.N = c.N) {i : Nat} {x : Str} (h : c.N[i]? = some x) : X.N[i]? = some x := by rw [hN]; exact h
theorem sLc (c : Cst) {e : E} {X : Cx} {W : WX} {i : Nat} {x : Str} {px vp pos : Pos} {pe : Expr} {g1 : Comprehension} {scope : Scope} (F : SF c C k X W) (h1 : c.N[i]? = some x)
    (f1 : isFunK X.env.scope = true) (f2 : lkB X.env.scope x [.local] = true) (f3 : (px.line == vp.line) = true) (f4 : (!(scope.names.any fun (n, k) => n == x && (k == .local || k == .cell))) = true)
    (h3 : mE c e X.env.scope (.ListComp pe [g1] scope vp) = true) : PS X (.Assign [.Name x px] (.ListComp pe [g1] scope vp) pos) (TSg X.K W fun D ρ μ => wpE C e ρ μ (fun v μ1 => mat v μ1 fun v' μ2 => D.nx (ρ.set i (some v')) μ2) (fun x μ' => D.rs x ρ μ')) := by
    have key : ∃ ik src tg own cond elt, e = .comp ik src tg own cond elt := by
      cases e with
      | comp ik src tg own cond elt => exact ⟨_, _, _, _, _, _, rfl⟩
      | isi _ _ _ many => cases many <;> cases h3
      | oeq neg _ _ _ _ => cases neg <;> cases h3
      | cst v => cases v <;> cases h3
      | dct ks vs => cases ks <;> cases vs <;> cases h3
      | flat _ _ _ _ => cases pe <;> first | (cases h3; done) | (simp [mE] at h3; done)
      | _ => cases h3
    obtain ⟨ik, src, tg, own, cond, elt, rfl⟩ := key
    match g1, h3 with
    | ⟨pt, pi, pf, 0⟩, h3 =>
      have h' : ((match (if c.hot = 0 then ikArgs c.G ik X.env.scope pt pi else hotArgs c.G ik X.env.scope pt pi) with | some ps => mEs c src X.env.scope ps | none => false) && noSet pi && mTg c.N (relS scope X.env.scope) (fun x => scope.names.lookup x == some .cell) tg pt && (tgV tg).all own.contains && blkC c.N X.env.scope scope (own.filterMap fun i => (c.N[i]?).map fun x => (x, i)) &&
        decide ((own.filterMap fun i => (c.N[i]?).map fun x => (x, i)).map (·.2) = own) && mCs c cond (relS scope X.env.scope) pf && mE c elt (relS scope X.env.scope) pe && (decide (c.hot = 0) || (decide (c.hot = 2) && varsB cond && varB elt))) = true := h3
      simp only [Bool.and_eq_true, Bool.or_eq_true, decide_eq_true_eq] at h'
      obtain ⟨⟨⟨⟨⟨⟨⟨⟨h1', h2'⟩, h3'⟩, h4'⟩, h5⟩, h6⟩, h7⟩, h8⟩, hh⟩ := h'
      generalize hown : (own.filterMap fun i => (c.N[i]?).map fun x => (x, i)) = own' at h5 h6
      cases hk : (if c.hot = 0 then ikArgs c.G ik X.env.scope pt pi else hotArgs c.G ik X.env.scope pt pi) with
      | none => rw [hk] at h1'; cases h1'
      | some ps =>
        rw [hk] at h1'
        have g := F.gd
        have hN := F.hN
        subst h6
        simp only [wpE]
        rcases hh with hh | ⟨⟨hh, hc⟩, he⟩
        rotate_left
        · rw [if_neg (by rw [hh]; decide)] at hk
          have hpi := hot_pi g (eEs c src _ _ X W g hN F.tk) hk h1'
          obtain ⟨p, hp, hpn⟩ := g.hx hh
          refine s_setL (c_setLcH (ix_lt hN h1) (lk_loc f2) (sw_true (isFunK_ok f1) (lk_loc f2) f3 (by simpa using f4)) hp hpn g.nd hpi (by rw [hN]; exact blkOk_by h5) (fun i hi => by have := List.all_eq_true.mp h4' i hi; simpa using this) (fun s H C cl fp => ?_) (fun s H C cl fp => ?_) (fun s H C cl fp => ?_) (set_ok h2'))
          · refine pg_g (X := blkP X p s H scope (compEnvC scope cl C X.env) fp) (unp_hot ⟨p, hp, List.mem_cons_self⟩) g.nd (df := fun x => scope.names.lookup x == some .cell) (fun x z => z) tg pt ?_
            show mTg X.N (relS scope X.env.scope) (fun x => scope.names.lookup x == some .cell) tg pt = true
            rw [hN]
            exact h3'
          · exact h_conds (X := blkP X p s H scope (compEnvC scope cl C X.env) fp) hN hc h7
          · exact (h_var (X := blkP X p s H scope (compEnvC scope cl C X.env) fp) (W := W0) hN he h8).pe
        rw [if_pos hh] at hk
        have hpi := ik_pi g (eEs c src _ _ X W g hN F.tk) hk h1'
        refine s_setL (c_setLc (ix_lt hN h1) (lk_loc f2) (sw_true (isFunK_ok f1) (lk_loc f2) f3 (by simpa using f4)) (g.calm hh) g.nd hpi (by rw [hN]; exact blkOk_by h5) (fun i hi => by have := List.all_eq_true.mp h4' i hi; simpa using this) (fun s H C cl fp => ?_) (fun s H C cl fp => ?_) (fun s H C cl fp => ?_) (set_ok h2'))
        · refine pg_g (X := X.blk s H scope (compEnvC scope cl C X.env) fp) (unp_calm (g.calm hh)) g.nd (df := fun x => scope.names.lookup x == some .cell) (fun x z => z) tg pt ?_
          show mTg X.N (relS scope X.env.scope) (fun x => scope.names.lookup x == some .cell) tg pt = true
          rw [hN]
          exact h3'
        · exact eCs c cond _ _ _ pf (g.blk hh (by rfl) (by rfl)) hN h7
        · exact (eE c elt _ _ _ W0 pe (g.blk hh (by rfl) (by rfl)) hN tk0 h8).pe
mutual
theorem sS (c : Cst) : ∀ (s : S) (C : Calls) (k : Nat) (X : Cx) (W : WX) (st : Stmt), SF c C k X W → mS c X.env.scope s st = true → PS X st (TSg X.K W (wpS C s))
  | .set i e, C, k, X, W, st, F, h => by
    cases st <;> try (cases h; done)
    rename_i tgs p pos
    match tgs, h with
    | [.Name x px], h =>
      have h' : (decide (c.N[i]? = some x) && lkB X.env.scope x [.local, .cell] && mE c e X.env.scope p && (!isCompE p || swLcB X.env.scope x px p || lkB X.env.scope x [.cell])) = true := h
      simp only [Bool.and_eq_true, Bool.or_eq_true, decide_eq_true_eq] at h'
      obtain ⟨⟨⟨h1, h2⟩, h3⟩, h4⟩ := h'
      simp only [wpS]
      obtain ⟨l1, l2⟩ := loc_of (N := X.N) (df := true) (X := X) h2 fun _ => F.fn x
      rcases h4 with (h4 | h4) | h4
      rotate_left 2
      · exact s_set F.gd.nd (ix_lt F.hN h1) l1 l2 (eE c e _ _ X W p F.gd F.hN F.tk h3).pe (sw_cell (lk_cell h4))
      · exact s_set F.gd.nd (ix_lt F.hN h1) l1 l2 (eE c e _ _ X W p F.gd F.hN F.tk h3).pe (sw_no (by simpa using h4))
      · clear h
        cases p <;> try (cases h4; done)
        rename_i pe gs scope vp
        match gs, h3, h4 with
        | [g1], h3, h4 =>
          have h4' : (isFunK X.env.scope && lkB X.env.scope x [.local] && (px.line == vp.line) && !(scope.names.any fun (n, k) => n == x && (k == .local || k == .cell))) = true := h4
          simp only [Bool.and_eq_true] at h4'
          obtain ⟨⟨⟨f1, f2⟩, f3⟩, f4⟩ := h4'
          exact sLc c F h1 f1 f2 f3 f4 h3
  | .setT ts e, C, k, X, W, st, F, h => by
    cases st <;> try (cases h; done)
    rename_i tgs p pos
    match tgs, h with
    | [.Tuple qs kk pt], h =>
      have h' : (decide (c.hot = 0) && mTg c.N X.env.scope (fun _ => true) (.tp ts) (.Tuple qs kk pt) && mE c e X.env.scope p && stNoB X.env.scope qs p) = true := h
      simp only [Bool.and_eq_true, decide_eq_true_eq] at h'
      obtain ⟨⟨⟨hh, h1⟩, h2⟩, h3⟩ := h'
      simp only [wpS]
      exact s_setT (eE c e _ _ X W p F.gd F.hN F.tk h2).pe (pg_t (unp_calm (F.gd.calm hh)) F.gd.nd (df := fun _ => true) (fun x _ => F.fn x) ts _ (by rw [F.hN]; exact h1)) sw_tup (st_no h3) rfl
  | .par is es, C, k, X, W, st, F, h => by
    cases st <;> try (cases h; done)
    rename_i tgs p pos
    simp only [wpS]
    match tgs, p, h with
    | [.Tuple qs kt pt], .Tuple vs k2 pt2, h =>
      have h' : (decide (c.hot = 0) && mPar c.N X.env.scope is qs vs && mEs c es X.env.scope vs) = true := h
      simp only [Bool.and_eq_true, decide_eq_true_eq] at h'
      obtain ⟨⟨hh, hp⟩, h5⟩ := h'
      unfold mPar at hp
      split at hp
      · rename_i i j x px y py a b
        simp only [Bool.and_eq_true, decide_eq_true_eq] at hp
        obtain ⟨⟨⟨h1, h2⟩, h3⟩, h4⟩ := hp
        have h4' := h4
        unfold par2B at h4'
        simp only [Bool.and_eq_true] at h4'
        exact s_par2 (F.gd.calm hh) F.gd.nd (ix_lt F.hN h1) (ix_lt F.hN h2) (by simpa using h3) (lk_loc h4'.1.1.1.1.1.1.1.2) (lk_loc h4'.1.1.1.1.1.1.2) ((eEs c es _ _ X W F.gd F.hN F.tk).am _ h5) (par2_ok h4)
      · rename_i i j l x px y py z pz a b d
        simp only [Bool.and_eq_true, decide_eq_true_eq] at hp
        obtain ⟨⟨⟨⟨⟨⟨h1, h2⟩, h2'⟩, h3⟩, h3'⟩, h3''⟩, h4⟩ := hp
        have h4' := h4
        unfold par3B at h4'
        simp only [Bool.and_eq_true] at h4'
        obtain ⟨⟨⟨⟨⟨⟨⟨⟨⟨⟨⟨⟨⟨g1, g2⟩, g3⟩, g3'⟩, g4⟩, g4'⟩, g4''⟩, g5⟩, g5'⟩, g6⟩, g7⟩, g7'⟩, g8⟩, g9⟩ := h4'
        exact s_par3 (F.gd.calm hh) F.gd.nd (ix_lt F.hN h1) (ix_lt F.hN h2) (ix_lt F.hN h2') (by simpa using h3) (by simpa using h3') (by simpa using h3'') (lk_loc g2) (lk_loc g3) (lk_loc g3') ((eEs c es _ _ X W F.gd F.hN F.tk).am _ h5) (par3_ok h4)
      · cases hp
  | .sub o i e, C, k, X, W, st, F, h => by
    cases st <;> try (cases h; done)
    rename_i tgs p pos
    match tgs, h with
    | [.Subscript q r sp], h =>
      have h' : (mE c e X.env.scope p && mE c o X.env.scope q && mE c i X.env.scope r && plainIxE r) = true := h
      simp only [Bool.and_eq_true] at h'
      obtain ⟨⟨⟨h1, h2⟩, h3⟩, h4⟩ := h'
      simp only [wpS]
      exact s_sub (eE c e _ _ X W p F.gd F.hN F.tk h1).pe (eE c o _ _ X W q F.gd F.hN F.tk h2).pe (eE c i _ _ X W r F.gd F.hN F.tk h3).pe sw_sub st_sub h4
  | .att n o f e, C, k, X, W, st, F, h => by
    cases st <;> try (cases h; done)
    rename_i tgs p pos
    match tgs, h with
    | [.Attribute q g ap], h =>
      have h' : (decide (f = g) && c.G.flds.contains (n, f) && mE c e X.env.scope p && mE c o X.env.scope q) = true := h
      simp only [Bool.and_eq_true, decide_eq_true_eq] at h'
      obtain ⟨⟨⟨rfl, h1⟩, h2⟩, h3⟩ := h'
      obtain ⟨m1, m2⟩ := F.gd.fld (n, f) (by simpa using h1)
      simp only [wpS]
      exact s_att (eE c o _ _ X W q F.gd F.hN F.tk h3).pe (eE c e _ _ X W p F.gd F.hN F.tk h2).pe sw_at m1 m2
  | .ex e, C, k, X, W, st, F, h => by
    cases st <;> try (cases h; done)
    rename_i p pos
    have h' : (mE c e X.env.scope p && !isCompE p) = true := h
    simp only [Bool.and_eq_true] at h'
    simp only [wpS]
    exact s_ex (eE c e _ _ X W p F.gd F.hN F.tk h'.1).pe (sw_no (by simpa using h'.2))
  | .ret e, C, k, X, W, st, F, h => by
    cases st <;> try (cases h; done)
    rename_i o pos
    cases o with
    | none => cases h
    | some p =>
      simp only [wpS]
      exact s_ret (eE c e _ _ X W p F.gd F.hN F.tk h).pe
  | .retN, C, k, X, W, st, F, h => by
    cases st <;> try (cases h; done)
    rename_i o pos
    cases o with
    | none => simp only [wpS]; exact s_retN
    | some p => cases h
  | .iff t a b, C, k, X, W, st, F, h => by
    cases st <;> try (cases h; done)
    rename_i p sa sb pos
    have h' : (mE c t X.env.scope p && tstOk p && mSs c X.env.scope a sa && mSs c X.env.scope b sb) = true := h
    simp only [Bool.and_eq_true] at h'
    obtain ⟨⟨⟨h1, h2⟩, h3⟩, h4⟩ := h'
    simp only [wpS]
    exact s_if ((eE c t _ _ X W p F.gd F.hN F.tk h1).pt h2) (sSs c a _ _ X W sa F h3) (sSs c b _ _ X W sb F h4)
  | .loop ik src tg body, C, k, X, W, st, F, h => by
    cases st <;> try (cases h; done)
    rename_i q p ss oe pos
    cases oe with
    | cons _ _ => cases h
    | nil =>
      have h' : (decide (c.hot = 0) && (match ikArgs c.G ik X.env.scope q p with | some ps => mEs c src X.env.scope ps | none => false) && noSet p && mTg c.N X.env.scope (fun _ => true) tg q && mSs c X.env.scope body ss) = true := h
      simp only [Bool.and_eq_true, decide_eq_true_eq] at h'
      obtain ⟨⟨⟨⟨hh, h1⟩, h2⟩, h3⟩, h4⟩ := h'
      cases hk : ikArgs c.G ik X.env.scope q p with
      | none => rw [hk] at h1; cases h1
      | some ps =>
        rw [hk] at h1
        simp only [wpS]
        exact s_for F.ps (F.gd.calm hh) (ik_pi F.gd (eEs c src _ _ X W F.gd F.hN F.tk) hk h1) (pg_g (unp_calm (F.gd.calm hh)) F.gd.nd (df := fun _ => true) (fun x _ => F.fn x) tg q (by rw [F.hN]; exact h3)) (sSs c body _ _ X W ss F h4) (set_ok h2)
  | .whl t body, C, k, X, W, st, F, h => by
    cases st <;> try (cases h; done)
    rename_i p ss oe pos
    cases oe with
    | cons _ _ => cases h
    | nil =>
      have h' : (mE c t X.env.scope p && tstOk p && mSs c X.env.scope body ss) = true := h
      simp only [Bool.and_eq_true] at h'
      obtain ⟨⟨h1, h2⟩, h3⟩ := h'
      simp only [wpS]
      exact s_while F.ps ((eE c t _ _ X W p F.gd F.hN F.tk h1).pt h2) (sSs c body _ _ X W ss F h3)
  | .brk, C, k, X, W, st, F, h => by
    cases st <;> try (cases h; done)
    simp only [wpS]; exact s_brk
  | .cont, C, k, X, W, st, F, h => by
    cases st <;> try (cases h; done)
    simp only [wpS]; exact s_cont
  | .pass, C, k, X, W, st, F, h => by
    cases st <;> try (cases h; done)
    simp only [wpS]; exact s_pass
  | .never, C, k, X, W, st, F, h => by
    simp only [wpS]; exact s_never
  | .raise n f as, C, k, X, W, st, F, h => by
    have nev : (f = none ∧ as = []) ∨ ¬ (f = none ∧ as = []) := Classical.em _
    rcases nev with ⟨rfl, rfl⟩ | nev
    · cases st <;> try (cases h; done)
      rename_i o o2 pos
      match o, o2, h with
      | some (.Call (.Name x px) [] [] p2), none, h =>
        have h' : (decide (n = x) && glB X.env.scope x && c.G.excs.contains x && !(x == ("__debug__" : Str)) && decide (c.hot = 0)) = true := h
        simp only [Bool.and_eq_true, decide_eq_true_eq] at h'
        obtain ⟨⟨⟨⟨rfl, h1⟩, h2⟩, h3⟩, hh⟩ := h'
        simp only [wpS]
        refine (s_raise (x := n) (G := c.G) (F.gd.calm hh) F.tk F.gd.exf (by simpa using h2) (glB_ok h1) (dbg h3)).imp fun D σ H q => ?_
        obtain ⟨ρ, μ, DP, q1, q2, q3, q4⟩ := q
        exact ⟨ρ, μ, DP, q1, q2, q3.2.2, q4⟩
    · simp only [wpS]
      refine ⟨fun pins s σ H D I q => ?_⟩
      obtain ⟨ρ, μ, DP, q1, q2, q3, q4⟩ := q
      exact absurd ⟨q3.1, q3.2.1⟩ nev
  | .try_ xs body n o suite, C, k, X, W, st, F, h => by
    cases st <;> try (cases o <;> cases suite <;> cases h; done)
    rename_i tb hs oe fb pos
    match o, suite, hs, oe, fb, h with
    | some i, s0 :: su, [.ExceptHandler (some (.Name x px)) (some y) (b0 :: bs) hp], [], [], h =>
      have h' : (xs.all c.G.excs.contains && decide (n = x) && glB X.env.scope x && c.G.excs.contains x && !(x == ("__debug__" : Str)) && decide (c.N[i]? = some y) && lkB X.env.scope y [.local] && decide (c.hot ≤ 1) &&
        mSs c X.env.scope body tb && mSs ⟨c.G, c.N, 2⟩ X.env.scope (s0 :: su) (b0 :: bs)) = true := h
      simp only [Bool.and_eq_true, decide_eq_true_eq] at h'
      obtain ⟨⟨⟨⟨⟨⟨⟨⟨⟨h0, rfl⟩, h1⟩, h2⟩, h3⟩, h4⟩, h5⟩, h6⟩, h7⟩, h8⟩ := h'
      simp only [wpS]
      refine (s_try (C := C) (G := c.G) (x := n) (wb := wpSs C body) (wsu := fun p => wpSs (C.wx p) (s0 :: su)) F.gd.exf (by simpa using h2) (fun y hy => by simpa using List.all_eq_true.mp h0 y hy) F.hs F.hf F.gd.nd (ix_lt F.hN h4) (lk_loc h5) (glB_ok h1) (dbg h3) F.tk (fun _ => trivial) (fun W2 pn xe tk2 ps2 => ?_) (fun a oe cl pn hcl hz hv => ?_)).imp fun D σ H q => ?_
      · exact sSs c body C k (X.tr pn xe) W2 tb ⟨F.hs, F.hf, F.gd.tr h6 pn xe, F.hN, tk2, ps2, F.fn⟩ h7
      · exact sSs ⟨c.G, c.N, 2⟩ (s0 :: su) (C.wx (a, cl)) k (X.suite a ((a, oe) :: pn)) _ (b0 :: bs) ⟨F.hs, F.hf, F.gd.su h6 hcl hz hv, F.hN, tk_suite, ps_suite (X := X) (a := a), F.fn⟩ h8
      · obtain ⟨ρ, μ, DP, q1, q2, ⟨i', e1, q3⟩, q4⟩ := q
        cases e1
        exact ⟨ρ, μ, DP, q1, q2, q3, q4⟩
theorem sSs (c : Cst) : ∀ (ss : List S) (C : Calls) (k : Nat) (X : Cx) (W : WX) (sts : List Stmt), SF c C k X W → mSs c X.env.scope ss sts = true → PSs X sts (TSg X.K W (wpSs C ss))
  | [], C, k, X, W, sts, F, h => by
    cases sts with
    | nil => simp only [wpSs]; exact s_nil
    | cons _ _ => cases h
  | s :: ss, C, k, X, W, sts, F, h => by
    cases sts with
    | nil => cases h
    | cons st sts =>
      have h' : (mS c X.env.scope s st && mSs c X.env.scope ss sts) = true := h
      simp only [Bool.and_eq_true] at h'
      simp only [wpSs]
      exact s_cons (sS c s _ _ X W st F h'.1) (sSs c ss _ _ X W sts F h'.2)
end
end
end G

namespace G
open PySem PySem.Spec PyProof.Rows L2 L2H
theorem call_isP {X : Cx} {a D : Addr} {oe : Obj} (C : ExcC X.K D) (hz : Zc (.ref D) none oe) (hf : ∃ vs, oe.data = .fields vs) (hm : (a, oe) ∈ X.pn) : CallR X (.builtin "isinstance") (rIsE X.K D a) := by
  rintro pins s σ H xs us Q I r ⟨c, cv, b, rfl, hcv, e, q⟩
  cases r with
  | cons rx rr =>
    cases rx
    cases rr with
    | cons rt r0 =>
    cases r0
    obtain rfl := hcv _ rt
    have hget := (I.pin (a, oe) (List.mem_append_left _ hm)).1
    obtain ⟨vs, hv⟩ := hf
    have J : PySem.W.InstAt s.heap a oe D none := by
      obtain ⟨oc, od, oda, osl⟩ := oe
      obtain ⟨h1, h2⟩ := hz
      dsimp only at h1 h2 hv
      subst h1; subst h2; subst hv
      exact ⟨hget, rfl, rfl, trivial⟩
    exact PySem.W.kia_one (PySem.W.handS_kitx_exc C.hg C.hk C.hs C.hd C.ha C.hn C.ht C.hm) I.kIn J e (fun z => nomatch z) fun tk => ⟨.bl b, H, I.kept (t' := tk) fun _ _ z => z, rfl, q⟩
section
variable {CX : CXT} {P : Program} {w : World} {K : PySem.W.Frag} {mg : Str → Option Value} {base : Heap} {k : Nat} {f : Addr} {name qual : Str} {params : Arguments} {body : List Stmt} {scope : Scope} {dV kV doc pm cdv ct oc : Value} {an od : Option Addr}
  {osl : Array (Option Value)} {N ps : List Str} {A : Around} {outer : List Env} {s : Shared} {H : Hp} {args : Args} {us : List Value} {vs : List V} {Q : VK} {E : XK} {p : Addr × Obj}
/-- a def of the text runs while p is handled, its body told of this very state -/
theorem run_ofH (lk : K.lookup f = some ⟨oc, od, .func (PySem.W.fnOf name qual params body scope dV kV doc pm an cdv ct), osl⟩) (hcd : PySem.W.codeIn K cdv qual = true) (S : FnScope N ps scope)
    (hr : RoomH (k + 1) A) (hpin : PinOk outer H s p) (e0 : Env0 P w K mg base A outer s H) (hb : BindsTo s (PySem.W.fnOf name qual params body scope dV kV doc pm an cdv ct) args (ps.zip us)) (r : Vals vs us) (hl : vs.length = ps.length)
    (hbody : RoomH k (A.deeper (envOfC qual scope s.heap.objs.size f cdv)) → ∃ t, PSs (cxH CX P w K mg base N qual scope f cdv A outer s H E p) body t ∧ t { nx := fun _ H' => Q .non H', rt := Q } (L2.start N vs) H) :
    codeAny (model P w) A (.call (.ref f) args) (CR CX outer P w H s Q E) s := by
  have kin : K.In s.heap := e0.mod.kin.keeps fun b o e => (e0.bs b o e).1
  obtain ⟨t, ht, hq⟩ := hbody (hr.deeper _)
  have hkind : ∀ y ∈ ps.zip us, scope.names.lookup y.1 = some .local ∨ (scope.names.lookup y.1 = some .cell ∧ ((cellsFrom (s.heap.objs.size + 1) scope.names []).lookup y.1).isSome = true) := by
    rintro ⟨n, v⟩ hy
    exact (S.par n (List.of_mem_zip hy).1).imp id fun q => ⟨q, PySem.W.cellsFrom_some _ _ _ (.inl q)⟩
  refine codeAny_call_function hr.depth (kin _ _ lk) rfl S.co S.gen rfl (PySem.W.codeRec_of kin hcd) (hb _ _ _ _ (wpAny_newFunctionEnv_cells S.kind hkind fun env he s1 x => ?_))
  subst he
  refine ⟨(e0.mod.nolimit.keeps fun b o e => (e0.bs b o e).1).keeps x.toInCall.keep, codeAny_func (wpAny_mono (ht.run [] s1 (L2.start N vs) H _ (inv_startH S hpin e0 hl r x) hq) (fun fl s' hs => ?_) fun _ _ hs => hs)⟩
  cases fl with
  | ret u =>
    obtain ⟨v, _, H', J, rv, q⟩ := hs
    exact ⟨v, H', J.os, J.bare, J.base, J.hok, rv, q⟩
  | next =>
    obtain ⟨_, H', J, q⟩ := hs
    exact ⟨.non, H', J.os, J.bare, J.base, J.hok, rfl, q⟩
  | brk => exact hs.choose_spec.choose_spec.2.elim
  | cont => exact hs.choose_spec.choose_spec.2.elim
end
end G

namespace G
open PySem PySem.Spec PyProof.Rows L2 L2H
variable [tb : Tb]

/-- a def: its number, where it stands, its slots' names, its parameters -/
structure FE where
  f : Nat
  d : He.DefD
  N : List Str
  ps : List Str
  lam : Bool := false
/-- thunks are handed on only where it is said -/
def GSf (G : GS) (b c : Bool) : GS := ⟨G.fns, G.consts, G.free, G.owns, G.classes, G.flds, G.meths, G.makes, G.asked, G.excs, G.exask, if b then G.lfs else [], if c then G.hfs else []⟩
def scopeB (N P : List Str) (sc : Scope) : Bool :=
  isFunK sc && !sc.isCoroutine && !sc.isGenerator && decide (N.Nodup) && decide (N.take P.length = P) && (P.all fun x => lkB sc x [.local, .cell]) && (sc.names.all fun y => !(y.2 == .free))
theorem scopeB_ok {N P : List Str} {sc : Scope} (h : scopeB N P sc = true) : FnScope N P sc := by
  unfold scopeB at h
  simp only [Bool.and_eq_true, decide_eq_true_eq, List.all_eq_true] at h
  obtain ⟨⟨⟨⟨⟨⟨h1, h2⟩, h3⟩, h4⟩, h5⟩, h6⟩, h7⟩ := h
  refine ⟨isFunK_ok h1, by simpa using h2, by simpa using h3, h4, h5, fun x hx => ?_, fun y hy e => ?_⟩
  · have q := h6 x hx
    unfold lkB at q
    split at q
    · rename_i k e
      rw [e]
      cases k <;> first | exact .inl rfl | exact .inr rfl | cases q
    · cases q
  · have q := h7 y hy
    rw [e] at q
    cases q
/-- what is checked of one def -/
def feB (G : GS) (FT : Nat → Option FI) (e : FE) : Bool := match FT e.f with
  | some fi => scopeB e.N e.ps e.d.scope && decide (fi.N = e.N.length) && decide (fi.ps = e.ps.length) && mSs ⟨GSf G e.lam false, e.N, 0⟩ e.d.scope fi.body e.d.body
  | none => false
/-- .. of a def that calls the thunk it is handed -/
def toB (G : GS) (FT : Nat → Option FI) (e : FE) : Bool := match FT e.f with
  | some fi => scopeB e.N e.ps e.d.scope && decide (fi.N = e.N.length) && decide (fi.ps = 1) && (match e.ps with
    | [a] => !(a == ("__debug__" : Str)) && !(a == ("__classdict__" : Str))
    | _ => false) && decide (e.d.qual = e.d.name) && mSs ⟨GSf G false true, e.N, 1⟩ e.d.scope fi.body e.d.body
  | none => false
/-- .. of a def that is called while an exception is handled -/
def hoB (G : GS) (FT : Nat → Option FI) (e : FE) : Bool := match FT e.f with
  | some fi => scopeB e.N e.ps e.d.scope && decide (fi.N = e.N.length) && decide (fi.ps = e.ps.length) && mSs ⟨GSf G false false, e.N, 2⟩ e.d.scope fi.body e.d.body
  | none => false
section
variable {G : GS} {FT : Nat → Option FI} {P : Program} {w : World} {K : PySem.W.Frag} {mg : Str → Option Value} {base : Heap}
/-- what does not turn on the level -/
structure Gs (G : GS) (K : PySem.W.Frag) (mg : Str → Option Value) : Prop where
  free : ∀ x ∈ G.free, mg x = none
  con : ∀ p ∈ G.consts, ∃ u w, mg p.1 = some u ∧ RelV w u ∧ ∀ H, RepV K H p.2 w
  own : ∀ c ∈ G.owns, mg c = some (.ref (He.ga K c))
  isi : ∀ t u, (∃ b ∈ bt7, t = .bt b) ∨ (∃ c ∈ G.classes, t = .own c) → u ∈ G.asked → PySem.W.kitOne K (clV K t) (clV K u) = some (isOne t u)
  ins : ∀ c ∈ G.classes, InsOk K c
  fld : ∀ p ∈ G.flds, Cls K (He.ga K p.1) ∧ NoAttr K (He.ga K p.1) p.2
  gl : ∀ (f : Nat) (x : Str), (f, x, none) ∈ G.fns → mg x = some (.ref (He.ga K x))
  mth : ∀ p ∈ G.meths, Cls K (He.ga K p.1) ∧ Meth K (He.ga K p.1) p.2 (He.fAd K (p.1, some p.2)) ∧ (p.2 = ("__eq__" : Str) → neIn K (He.ga K p.1) (He.fAd K (p.1, some p.2)) = true)
  mkr : ∀ p ∈ G.makes, Mk K (He.ga K p.1) (He.ma K (He.ga K p.1) "__init__") ∧ mg p.1 = some (.ref (He.ga K p.1)) ∧ (p.2, p.1, some ("__init__" : Str)) ∈ G.fns
  exf : ExF G K mg
abbrev FuD (K : PySem.W.Frag) (d : He.DefD) (fd : FuncData) : Prop := FunD K d.name d.qual d.params d.body d.scope [] [] (He.fAd K d.at_) fd
/-- .. and the defs as they stand -/
structure Gf (G : GS) (FT : Nat → Option FI) (es : List FE) (K : PySem.W.Frag) : Prop where
  ex : ∀ f p, (f, p) ∈ G.fns → ∃ e ∈ es, e.f = f ∧ e.d.at_ = p
  ok : ∀ e ∈ es, feB G FT e = true ∧ ∃ fd, FuD K e.d fd ∧ Binds K fd e.ps []
theorem spOf_len {e : FE} {k : Nat} {vs : List V} {H : Hp} {Q : VK} {E : XK} (fb : feB G FT e = true) (h : spOf K ((CS2 FT k).fn e.f) vs H Q E) : vs.length = e.ps.length := by
  obtain ⟨pvs, μ, P, X, r, m, c, _⟩ := h
  cases k with
  | zero => exact c.elim
  | succ k =>
    unfold feB at fb
    cases q : FT e.f with
    | none => rw [q] at fb; cases fb
    | some fi =>
      rw [q] at fb
      simp only [Bool.and_eq_true, decide_eq_true_eq] at fb
      have c' : (match FT e.f with
        | some fi => pvs.length = fi.ps ∧ _
        | none => False) := c
      rw [q] at c'
      rw [← r.length, c'.1, fb.1.2]
theorem ExF.sf {b c : Bool} (e : ExF G K mg) : ExF (GSf G b c) K mg := ⟨e.nm, e.isk, e.one, e.cl, e.mkx, e.ty⟩
/-- the defs that call the thunk they are handed -/
structure Gt (G : GS) (FT : Nat → Option FI) (K : PySem.W.Frag) (mg : Str → Option Value) : Prop where
  to : ∀ f x, (f, x) ∈ G.lfs → ∃ e : FE, e.f = f ∧ e.d.name = x ∧ mg x = some (.ref (He.fAd K e.d.at_)) ∧ toB G FT e = true ∧ ∃ fd, FuD K e.d fd ∧ Binds K fd e.ps []
  ho : ∀ f x, (f, x) ∈ G.hfs → ∃ e : FE, e.f = f ∧ mg x = some (.ref (He.fAd K e.d.at_)) ∧ hoB G FT e = true ∧ ∃ fd, FuD K e.d fd ∧ Binds K fd e.ps []
/-- where the makers' tables stand -/
def Gtb [tb : Tb] (K : PySem.W.Frag) (mg : Str → Option Value) (base : Heap) (es : List FE) : Prop :=
  ∀ e ∈ es, e.lam = true → ∃ c P, (∀ fd, FuD K e.d fd → fd.code = .ref c) ∧ LamX.TabB base mg c P ∧ (P, e.d.qual ++ ".<locals>." ++ "<lambda>") ∈ tb.tabs ∧ ∀ p ∈ tb.tabs, p.1 = P → p.2 = e.d.qual ++ ".<locals>." ++ "<lambda>"
theorem FnF.some {k : Nat} {call : List PV → PM → Post → XPost → Prop} {f : Addr} {e : FE} {fd : FuncData} (F2 : FuD K e.d fd) (h : FnOk P w K mg base (L2N.CX P w) k f fd e.ps (spOf K call)) (hf : f = He.fAd K e.d.at_) (B : Binds K fd e.ps []) : FnF P w K mg base k call f :=
  ⟨by rw [hf]; exact F2.kp, fd, e.ps, h, B⟩
theorem fn_none (i : Nat) {k : Nat} {f : Addr} {fd : FuncData} {ps : List Str} : FnOk P w K mg base (L2N.CX P w) k f fd ps (spOf K (noF i)) :=
  ⟨fun vs H Q E h => (by obtain ⟨_, _, _, _, _, _, h, _⟩ := h; exact h.elim), fun A outer s H args us vs Q E hr he0 hb hv hs => (by obtain ⟨_, _, _, _, _, _, h, _⟩ := hs; exact h.elim)⟩
/-- a call while an exception is handled -/
theorem ho_b {X : Cx} {es : List FE} (S : Gs G X.K X.mg) (D : Gf G FT es X.K) {e : FE} (h : hoB G FT e = true) {fd : FuncData} (F : FuD X.K e.d fd) (B : Binds X.K fd e.ps []) {x : Str} (hm : X.mg x = some (.ref (He.fAd X.K e.d.at_)))
    {a : Addr} {oe : Obj} {cl : Str} (hcl : cl ∈ G.excs) (hz : L2N.Zn (.ref (He.ga X.K cl)) none oe) (hv : ∃ vs, oe.data = .fields vs) (hpn : (a, oe) ∈ X.pn) (hh : X.A.handled = some (.ref a)) (hr : RoomH 1 X.A) :
    HfF X (fun vs μ P => hotF FT e.f (a, cl) vs μ P) x := by
  intro W e0 es' ws q pos ha hg hdb hns
  unfold hoB at h
  cases hfi : FT e.f with
  | none => rw [hfi] at h; cases h
  | some fi =>
    rw [hfi] at h
    simp only [Bool.and_eq_true, decide_eq_true_eq] at h
    obtain ⟨⟨⟨b1, b2⟩, b3⟩, b4⟩ := h
    have hns' := hns
    simp only [List.all_cons, Bool.and_eq_true] at hns'
    have F' := F
    obtain ⟨oc, od, dV, kV, doc, pm, an, cdv, ct, osl, rfl, lk, hcd, _, _⟩ := F'.ex
    refine ⟨fun pins s σ H Q I hw => ?_⟩
    obtain ⟨ρ, μ, Pp, Y, hρ, m, hw, c0, cx⟩ := hw
    refine wpAny_Call_Name_kw (ld_glob I hg hm ?_ hdb)
    have hT : TAm X.K W ws σ H (fun us H1 => ∃ (pvs : List PV) (μ1 : PM), RepVs X.K H1 pvs us ∧ RepH X.K H1 μ1 ∧ Ext μ H μ1 H1 ∧ hotF FT e.f (a, cl) pvs μ1 Pp) := ⟨ρ, μ, _, Y, hρ, m, hw, fun vs μ1 us H1 r1 m1 e1 p1 => ⟨vs, μ1, r1, m1, e1, p1⟩, cx⟩
    refine PySem.W.callWith_K (h₀ := X.base) I.ok.mod.kin F.kp (thn (ha.run pos pins s σ H _ I hT) fun us s1 ⟨vs, H1, I1, r, pvs, μ1, rr, m1, e1, p1⟩ => ⟨I1.kIn, ?_⟩) (star_cons _ hns'.1) (star_back _ _ hns'.2)
    unfold hotF at p1
    rw [hfi] at p1
    obtain ⟨hl, p1⟩ := p1
    have P1 := I1.pin (a, oe) (List.mem_append_left _ hpn)
    have hpin : PinOk X.stack H1 s1 (a, oe) := ⟨P1.1, P1.2.1, fun z => (List.mem_cons.mp (I1.stkSub a z)).elim P1.2.2.1 P1.2.2.2.1, P1.2.2.2.2⟩
    have hl2 : vs.length = e.ps.length := by rw [← rr.length, hl, b3]
    have hu : us.length = e.ps.length := by rw [← r.length, hl2]
    obtain ⟨vs9, hd9⟩ := hv
    have hot1 : ∀ (A' : Around) , A'.handled = X.A.handled → Hot1 A' (a, oe) := fun A' hA => ⟨hA.trans hh, vs9, hd9, hz.2.2 vs9 hd9⟩
    have bb := B s1 us I1.kIn (by rw [List.append_nil]; exact hu)
    rw [List.append_nil] at bb
    have rc : codeAny (model X.prog X.w) X.A (.call (.ref (He.fAd X.K e.d.at_)) ⟨us, []⟩) (CR (L2N.CX X.prog X.w) X.stack X.prog X.w H1 s1 Q (fun _ _ _ => False)) s1 := by
      refine run_ofH (p := (a, oe)) (mg := X.mg) (base := X.base) lk hcd (scopeB_ok b1) hr hpin I1.env0 bb r hl2 fun hr' => ?_
      have gd : Gd (GSf G false false) 2 (Calls.none { ex := some (a, cl) }) 0 (cxH (L2N.CX X.prog X.w) X.prog X.w X.K X.mg X.base e.N e.d.qual e.d.scope (He.fAd X.K e.d.at_) cdv X.A X.stack s1 H1 (fun _ _ _ => False) (a, oe)) :=
        { calm := fun z => by cases z
          un := by have := hr'.un; show (X.A.deeper _).units + 64 < cLine; omega
          nd := (scopeB_ok b1).nd
          room := fun z => by cases z
          free := S.free
          con := S.con
          own := S.own
          isi := S.isi
          ins := S.ins
          fld := S.fld
          fn := fun f p hp => by
            obtain ⟨e2, he2, rfl, rfl⟩ := D.ex f p hp
            obtain ⟨fb2, fd2, F2, B2⟩ := D.ok e2 he2
            exact FnF.some F2 (fn_none e2.f) rfl B2
          gl := S.gl
          mkf := fun f p hp => by
            obtain ⟨e2, he2, rfl, rfl⟩ := D.ex f p hp
            obtain ⟨fb2, fd2, F2, B2⟩ := D.ok e2 he2
            exact FnF.some F2 (fn_none e2.f) rfl B2
          evh := fun z => by cases z
          evx := fun z => absurd z (by decide)
          ex2 := fun _ => ⟨a, cl, rfl⟩
          hx := fun _ => ⟨(a, oe), hot1 _ rfl, List.mem_cons_self⟩
          hf0 := fun z => by cases z
          hf1 := fun z => absurd z (by decide)
          hf2 := fun _ f x hx => nomatch (show (f, x) ∈ ([] : List (Nat × Str)) from hx)
          th1 := fun z => by cases z
          lf0 := fun z => by cases z
          lfk := fun z => by cases z
          low := fun z => by cases z
          exf := S.exf.sf
          act := fun a T e => by cases e
          exh := fun a' c e => by
            cases e
            exact ⟨hcl, call_isP (S.exf.cl cl hcl) hz.zc ⟨vs9, hd9⟩ List.mem_cons_self⟩
          mth := S.mth
          mkr := S.mkr }
      have tk : L2N.Takes (cxH (L2N.CX X.prog X.w) X.prog X.w X.K X.mg X.base e.N e.d.qual e.d.scope (He.fAd X.K e.d.at_) cdv X.A X.stack s1 H1 (fun _ _ _ => False) (a, oe)) (fun _ _ _ _ => False) := fun _ _ x => by
        obtain ⟨_, _, _, _, _, _, _, _, _, _, _, _, _, _, _, _, w⟩ := x
        exact w.elim
      refine ⟨_, sSs ⟨GSf G false false, e.N, 2⟩ fi.body _ 0 _ _ e.d.body ⟨rfl, rfl, gd, rfl, tk, passes_of rfl, fun _ => rfl⟩ b4, startP fi.N pvs, μ1, { nx := fun _ μ' => Pp .non μ', rt := Pp, bk := fun _ _ => False, ct := fun _ _ => False, rs := fun _ _ _ => False }, ?_, m1, p1, ⟨fun ρ' μ' σ' H' h1 h2 h3 h4 => ?_, fun v μ' w H' h1 h2 h3 h4 => ?_, fun _ _ _ _ _ _ _ z => z.elim, fun _ _ _ _ _ _ _ z => z.elim, fun _ _ _ _ _ _ _ _ _ _ _ z => z.elim⟩⟩
      · rw [b2]; exact RepE.start rr
      · exact c0 .non μ' .non H' rfl h2 (e1.trans h3) h4
      · exact c0 v μ' w H' (Res.of h1) h2 (e1.trans h3) h4
    refine wpAny_call (codeAny_mono rc fun r s2 hq => ?_)
    cases r with
    | error e =>
      obtain ⟨_, _, _, _, _, _, _, _, _, _, _, _, z⟩ := hq
      exact z.elim
    | ok fl =>
      cases fl with
      | ret u => exact I1.after hq
      | next => exact False.elim hq
      | brk => exact False.elim hq
      | cont => exact False.elim hq
theorem to_b {es : List FE} (S : Gs G K mg) (D : Gf G FT es K) (Dt : Gt G FT K mg) {e : FE} (h : toB G FT e = true) {fd : FuncData} (F : FuD K e.d fd) {fi : FI} (hfi : FT e.f = some fi) {k : Nat} {cdv : Value} :
    ToB P w K mg base (k + 1) e.d.qual (He.fAd K e.d.at_) e.d.body e.d.scope cdv e.N fi (hotF FT) := by
  unfold toB at h
  rw [hfi] at h
  simp only [Bool.and_eq_true, decide_eq_true_eq] at h
  obtain ⟨⟨⟨⟨⟨b1, b2⟩, b3⟩, b4⟩, b5⟩, b6⟩ := h
  intro tb' A outer s H f Tt hr act
  have gd : @Gd tb' (GSf G false true) 1 (Calls.none { th := some (f, Tt), hf := hotF FT }) 0 (cxOf (L2N.CX P w) P w K mg base e.N e.d.qual e.d.scope (He.fAd K e.d.at_) cdv A outer s H (fun _ _ _ => False)) :=
    { calm := fun z => by cases z
      un := hr.units
      nd := (scopeB_ok b1).nd
      room := fun z => by cases z
      free := S.free
      con := S.con
      own := S.own
      isi := S.isi
      ins := S.ins
      fld := S.fld
      fn := fun f p hp => by
        obtain ⟨e2, he2, rfl, rfl⟩ := D.ex f p hp
        obtain ⟨fb2, fd2, F2, B2⟩ := D.ok e2 he2
        exact FnF.some F2 (fn_none e2.f) rfl B2
      gl := S.gl
      mkf := fun f p hp => by
        obtain ⟨e2, he2, rfl, rfl⟩ := D.ex f p hp
        obtain ⟨fb2, fd2, F2, B2⟩ := D.ok e2 he2
        exact FnF.some F2 (fn_none e2.f) rfl B2
      evh := fun z => by cases z
      evx := fun _ => rfl
      ex2 := fun z => by cases z
      hx := fun z => by cases z
      hf0 := fun z => by cases z
      hf1 := fun _ f x hx a oe cl pn hcl hz hv => by
        obtain ⟨e4, rfl, h42, h43, fd4, F4, B4⟩ := Dt.ho f x hx
        exact ho_b (X := (cxOf (L2N.CX P w) P w K mg base e.N e.d.qual e.d.scope (He.fAd K e.d.at_) cdv A outer s H (fun _ _ _ => False)).suite a ((a, oe) :: pn)) (tb := tb') S D h43 F4 B4 h42 hcl hz hv List.mem_cons_self rfl ⟨(hr.mono (Nat.le_add_left 1 k)).dp, (hr.mono (Nat.le_add_left 1 k)).un⟩
      hf2 := fun z => by cases z
      th1 := fun _ => ⟨f, Tt, rfl⟩
      lf0 := fun z => by cases z
      lfk := fun z => by cases z
      low := fun z => by cases z
      exf := S.exf.sf
      act := fun a T e pn xe W nm p1 p2 hn tk => by
        cases e
        exact act pn xe W nm p1 p2 hn tk
      exh := fun a c e => by cases e
      mth := S.mth
      mkr := S.mkr }
  exact @sSs tb' ⟨GSf G false true, e.N, 1⟩ fi.body _ 0 _ _ e.d.body ⟨rfl, rfl, gd, rfl, L2N.takes_of rfl rfl rfl rfl, passes_of rfl, fun _ => rfl⟩ b6
theorem lf_le {k : Nat} {f : Nat} {Tt : PM → Post → XPost → Prop} {μ : PM} {Pp : Post} {Y : XPost} {fi : FI} (hfi : FT f = some fi) (h : (CS2 FT (k + 1)).lf f Tt μ Pp Y) :
    2 ≤ k ∧ fi.ps = 1 ∧ ∀ a, μ a = none → wpSs (Calls.none { th := some (a, Tt), hf := hotF FT }) fi.body { nx := fun _ μ' => Pp .non μ', rt := Pp, bk := fun _ _ => False, ct := fun _ _ => False, rs := fun _ _ _ => False } (startP fi.N [.ref a]) μ := by
  have h' : 2 ≤ k ∧ (match FT f with
    | some fi => fi.ps = 1 ∧ ∀ a, μ a = none → wpSs (Calls.none { th := some (a, Tt), hf := hotF FT }) fi.body { nx := fun _ μ' => Pp .non μ', rt := Pp, bk := fun _ _ => False, ct := fun _ _ => False, rs := fun _ _ _ => False } (startP fi.N [.ref a]) μ
    | none => False) := h
  rw [hfi] at h'
  exact ⟨h'.1, h'.2.1, h'.2.2⟩
theorem lf_of {es : List FE} {X' : Cx} (S : Gs G X'.K X'.mg) (D : Gf G FT es X'.K) (Dt : Gt G FT X'.K X'.mg) {e3 : FE} {x : Str} (e33 : X'.mg x = some (.ref (He.fAd X'.K e3.d.at_))) (e34 : toB G FT e3 = true) {fd3 : FuncData} (F3 : FuD X'.K e3.d fd3) (B3 : Binds X'.K fd3 e3.ps [])
    {cc Pt : Addr} (Cc : ToC tb.tabs X' cc Pt) {f : Nat} (e31 : e3.f = f) {j : Nat} (rm : Room (j + 1) X'.A) : LfF (j - 1) X' ((CS2 FT (j + 1)).lf f) x := by
  have hto := e34
  unfold toB at hto
  cases q3 : FT e3.f with
  | none => rw [q3] at hto; cases hto
  | some fi3 =>
    rw [q3] at hto
    simp only [Bool.and_eq_true, decide_eq_true_eq] at hto
    obtain ⟨⟨⟨⟨⟨g1, g2⟩, g3⟩, g4⟩, g5⟩, g6⟩ := hto
    obtain ⟨ay, eps, ay1, ay2⟩ : ∃ ay, e3.ps = [ay] ∧ (ay == ("__debug__" : Str)) = false ∧ (ay == ("__classdict__" : Str)) = false := by
      split at g4
      · rename_i ay hps
        rw [Bool.and_eq_true] at g4
        exact ⟨ay, hps, by simpa using g4.1, by simpa using g4.2⟩
      · cases g4
    have sc3 := scopeB_ok g1
    rw [eps] at sc3 B3
    have F3' := F3
    obtain ⟨oc3, od3, dV3, kV3, doc3, pm3, an3, cdv3, ct3, osl3, rfl, lk3, hcd3, _, _⟩ := F3.ex
    intro W lsc b wb pp lpos pos tk hg hdb L hbody
    rcases Nat.lt_or_ge j 1 with hj | hj
    · exact pe_false fun σ H Q z => by
        obtain ⟨_, _, _, _, _, _, z, _⟩ := z
        have h' : 2 ≤ j ∧ _ := z
        omega
    · obtain ⟨i, rfl⟩ : ∃ i, j = i + 1 := ⟨j - 1, by omega⟩
      have hN0 : e3.N[0]? = some ay := by
        have := sc3.pre
        cases hh : e3.N with
        | nil => rw [hh] at this; simp at this
        | cons z zs => rw [hh] at this; simp at this; subst this; rfl
      have hv : Vis e3.d.scope ay := by
        rcases sc3.par ay (by simp) with h | h
        · exact .inl h
        · exact .inr (.inl h)
      have St : ToS X'.K X'.mg x e3.d.name e3.d.qual (He.fAd X'.K e3.d.at_) e3.d.params e3.d.body e3.d.scope dV3 kV3 doc3 pm3 cdv3 ct3 oc3 an3 od3 osl3 e3.N ay :=
        ⟨e33, F3'.kp, lk3, hcd3, B3, sc3, hN0, hv, ay1, ay2⟩
      exact c_lamc (k := i) St (to_b S D Dt e34 F3' q3) Cc g2 (fun Tt μ P' Y z a ha => (lf_le (by rw [← e31] at z ⊢; exact q3) z).2.2 a ha) rm hg hdb L hbody
theorem fn_lvl {es : List FE} (S : Gs G K mg) (D : Gf G FT es K) (Dt : Gt G FT K mg) (Db : Gtb K mg base es) : ∀ k, ∀ e ∈ es, ∀ fd, FuD K e.d fd → FnOk P w K mg base (L2N.CX P w) k (He.fAd K e.d.at_) fd e.ps (spOf K ((CS2 FT k).fn e.f)) := by
  intro k
  induction k using Nat.strongRecOn with
  | _ k ih =>
    intro e he fd hfd
    have fb := (D.ok e he).1
    refine ⟨fun vs H Q E h => spOf_len fb h, fun A outer s H args us vs Q E hr he0 hb hv hs => ?_⟩
    cases k with
    | zero =>
      obtain ⟨pvs, μ, P, X, r, m, c, _⟩ := hs
      exact c.elim
    | succ k =>
      have fb' := fb
      unfold feB at fb'
      cases q : FT e.f with
      | none => rw [q] at fb'; cases fb'
      | some fi =>
        rw [q] at fb'
        simp only [Bool.and_eq_true, decide_eq_true_eq] at fb'
        obtain ⟨⟨⟨b1, b2⟩, b3⟩, b4⟩ := fb'
        obtain ⟨pvs, μ, Pp, Xp, r, m, c, c1, c2⟩ := hs
        have c' : (match FT e.f with
          | some fi => pvs.length = fi.ps ∧ ((CS2 FT k).fn e.f pvs μ Pp Xp ∨ (0 < k ∧ wpSs (CS2 FT k) fi.body { nx := fun _ μ' => Pp .non μ', rt := fun v μ' => ∃ μ'', Sub μ'' μ' ∧ Pp v μ'', bk := fun _ _ => False, ct := fun _ _ => False, rs := fun x _ μ' => ∃ μ'', Sub μ'' μ' ∧ Xp x μ'' } (startP fi.N pvs) μ))
          | none => False) := c
        rw [q] at c'
        obtain ⟨hl, c'⟩ := c'
        rcases c' with c' | ⟨hk, c'⟩
        · exact ((ih k (Nat.lt_succ_self _) e he fd hfd).mono (Nat.le_succ k)).run A outer s H args us vs Q E hr he0 hb hv ⟨pvs, μ, Pp, Xp, r, m, c', c1, c2⟩
        · obtain ⟨j, rfl⟩ : ∃ j, k = j + 1 := ⟨k - 1, by omega⟩
          let sp2 : Sp := fun vs H Q E => vs.length = e.ps.length ∧ ∃ (pvs : List PV) (μ : PM) (Pp : Post) (Xp : XPost), RepVs K H pvs vs ∧ RepH K H μ ∧
            wpSs (CS2 FT (j + 1)) fi.body { nx := fun _ μ' => Pp .non μ', rt := fun v μ' => ∃ μ'', Sub μ'' μ' ∧ Pp v μ'', bk := fun _ _ => False, ct := fun _ _ => False, rs := fun x _ μ' => ∃ μ'', Sub μ'' μ' ∧ Xp x μ'' } (startP fi.N pvs) μ ∧
            (∀ v μ' w H', RepV K H' v w → RepH K H' μ' → Ext μ H μ' H' → Pp v μ' → Q w H') ∧ (∀ x μ' cls d H', RepX K H' x cls d → RepH K H' μ' → Ext μ H μ' H' → Xp x μ' → E cls d H')
          have lower : ∀ i, i ≤ j + 1 → ∀ (f : Nat) (p : Str × Option Str), (f, p) ∈ G.fns → FnF P w K mg base i ((CS2 FT i).fn f) (He.fAd K p) := fun i hi f p hp => by
            obtain ⟨e2, he2, rfl, rfl⟩ := D.ex f p hp
            obtain ⟨fb2, fd2, F2, B2⟩ := D.ok e2 he2
            exact FnF.some F2 (ih i (by omega) e2 he2 fd2 F2) rfl B2
          have nolow : ∀ i, ∀ (f : Nat) (p : Str × Option Str), (f, p) ∈ G.fns → FnF P w K mg base i (noF f) (He.fAd K p) := fun i f p hp => by
            obtain ⟨e2, he2, rfl, rfl⟩ := D.ex f p hp
            obtain ⟨fb2, fd2, F2, B2⟩ := D.ok e2 he2
            exact FnF.some F2 (fn_none e2.f) rfl B2
          have ok2 : FnOk P w K mg base (L2N.CX P w) (j + 2) (He.fAd K e.d.at_) fd e.ps sp2 := by
            have hfd0 := hfd
            obtain ⟨oc, od, dV, kV, doc, pm, an, cdv, ct, osl, rfl, lk, hcd, _, _⟩ := hfd.ex
            refine fn_of lk hcd (scopeB_ok b1) (fun vs H Q E h => h.1) fun A outer s H vs Q E hr h => ?_
            obtain ⟨hl, pvs, μ, Pp, Xp, r, m, c', c1, c2⟩ := h
            refine ⟨TSg K (fun cls d _ H => E cls d H) (wpSs (CS2 FT (j + 1)) fi.body), ?_, ?_⟩
            · have gd : Gd (GSf G e.lam false) 0 (CS2 FT (j + 1)) j (cxOf (L2N.CX P w) P w K mg base e.N e.d.qual e.d.scope (He.fAd K e.d.at_) cdv A outer s H E) :=
                { calm := fun _ => rfl
                  un := hr.units
                  nd := (scopeB_ok b1).nd
                  room := fun _ => hr
                  free := S.free
                  con := S.con
                  own := S.own
                  isi := S.isi
                  ins := S.ins
                  fld := S.fld
                  fn := fun f p hp => lower (j + 1) (Nat.le_refl _) f p hp
                  gl := S.gl
                  mkf := fun f p hp => lower j (Nat.le_succ _) f p hp
                  evh := fun _ => rfl
                  evx := fun _ => rfl
                  ex2 := fun z => by cases z
                  hx := fun z => by cases z
                  hf0 := fun _ => rfl
                  hf1 := fun _ f x hx => nomatch (show (f, x) ∈ ([] : List (Nat × Str)) from hx)
                  hf2 := fun z => by cases z
                  th1 := fun z => by cases z
                  lf0 := fun _ hj f Tt μ P' Y z => by
                    have h' : 2 ≤ j ∧ _ := z
                    omega
                  lfk := fun _ f x hx X' l rm => by
                    cases hlam : e.lam with
                    | false =>
                      rw [hlam] at hx
                      exact nomatch (show (f, x) ∈ ([] : List (Nat × Str)) from hx)
                    | true =>
                      rw [hlam] at hx
                      obtain ⟨e3, e31, e32, e33, e34, fd3, F3, B3⟩ := Dt.to f x hx
                      obtain ⟨cc, Pt, t1, t2, t3, t4⟩ := Db e he hlam
                      have tcd : cdv = .ref cc := t1 _ hfd0
                      obtain ⟨l1, l2, l3, l4, l5, l6, l7⟩ := l
                      have l1' : X'.prog = P := l1
                      have l2' : X'.w = w := l2
                      have l3' : X'.K = K := l3
                      have l4' : X'.mg = mg := l4
                      have l5' : X'.base = base := l5
                      have l6' : X'.env.code = cdv := l6
                      have l7' : X'.env.qual = e.d.qual ++ ".<locals>." := l7
                      exact lf_of (es := es) (by rw [l3', l4']; exact S) (by rw [l3']; exact D) (by rw [l3', l4']; exact Dt) (e3 := e3) (by rw [l3', l4']; exact e33) e34 (fd3 := fd3) (by rw [l3']; exact F3) (by rw [l3']; exact B3) (cc := cc) (Pt := Pt) ⟨by rw [l5', l4']; exact t2, by rw [l6']; exact tcd, by rw [l7']; exact t3, by rw [l7']; exact t4⟩ e31 rm
                  low := fun _ f p hp => by
                    cases j with
                    | zero => exact ⟨nolow _ f p hp, nolow _ f p hp⟩
                    | succ i =>
                      refine ⟨lower i (by omega) f p hp, ?_⟩
                      cases i with
                      | zero => exact nolow _ f p hp
                      | succ l => exact lower l (by omega) f p hp
                  exf := S.exf.sf
                  act := fun a T e => by cases e
                  exh := fun a c e => by cases e
                  mth := S.mth
                  mkr := S.mkr }
              exact sSs ⟨GSf G e.lam false, e.N, 0⟩ fi.body _ j _ _ e.d.body ⟨rfl, rfl, gd, rfl, L2N.takes_of rfl rfl rfl rfl, passes_of rfl, fun _ => rfl⟩ b4
            · refine ⟨_, μ, _, ?_, m, c', ⟨fun ρ' μ' σ' H' h1 h2 h3 h4 => c1 .non μ' .non H' rfl h2 h3 h4, fun v μ' w H' h1 h2 h3 h4 => ?_, fun _ _ _ _ _ _ _ z => z.elim, fun _ _ _ _ _ _ _ z => z.elim, fun x ρ' μ' cls d σ' H' h0 h1 h2 h3 h4 => ?_⟩⟩
              · rw [b2]; exact RepE.start r
              · obtain ⟨μ'', sb, p⟩ := h4
                exact c1 v μ'' w H' h1 (h2.sub sb) (h3.sub sb) p
              · obtain ⟨μ'', sb, p⟩ := h4
                exact c2 x μ'' cls d H' h0 (h2.sub sb) (h3.sub sb) p
          exact ok2.run A outer s H args us vs Q E hr he0 hb hv ⟨by rw [← r.length, hl, b3], pvs, μ, Pp, Xp, r, m, c', c1, c2⟩
end
end G

namespace G
open PySem PySem.Spec PyProof.Rows L2

def toDv : PV → Option He.Dv
  | .non => some .non
  | .bl b => some (.bl b)
  | .int i => some (.int i)
  | .str x => some (.str x)
  | _ => none
def conB (K : PySem.W.Frag) (x : Str) : PV → Bool
  | .int i => (He.Fa.int x i).ok K
  | .str z => (He.Fa.str x z).ok K && decide (z.length ≤ 1000)
  | .tup xs => (He.Fa.glo x).ok K && (match allOf toDv xs with
    | some ds => He.tupB K x ds && decide (xs.length ≤ 1000) && xs.all fun v => match v with
      | .str z => decide (z.length ≤ 1000)
      | _ => true
    | none => false)
  | _ => false
def insB (K : PySem.W.Frag) (c : Str) : Bool := (He.Fa.cls c).ok K && decide (PySem.W.findIn K (.ref (He.ga K c)) "__class__" = some (some (.builtin "object.__class__"))) &&
  decide (PySem.W.specialIn K (.builtin "object.__class__") "__get__" = some (some (.builtin "getset_descriptor.__get__"))) && decide (PySem.W.takesIn K (.builtin "object.__class__") = some true) && decide (PySem.W.mroIn K (He.ga K c) (.type "object") = some true)
def bmV : List Value := [.type "ValueError", .type "Exception", .type "BaseException", .type "object"]
def excCB (K : PySem.W.Frag) (D : Addr) : Bool :=
  decide (PySem.W.findIn K (.ref D) "__getattribute__" = some (some (.builtin "BaseException.__getattribute__"))) && decide (PySem.W.findIn K (.ref D) "__getattr__" = some none) &&
  decide (PySem.W.subIn K (.ref D) (.type "BaseException") = some true) && decide (PySem.W.hasDictIn K D = true) && decide (PySem.W.findIn K (.ref D) "__class__" = some (some (.builtin "object.__class__"))) &&
  decide (PySem.W.specialIn K (.builtin "object.__class__") "__get__" = some (some (.builtin "getset_descriptor.__get__"))) && decide (PySem.W.takesIn K (.builtin "object.__class__") = some true) && decide (PySem.W.mroIn K D (.type "object") = some true)
theorem excCB_ok {K : PySem.W.Frag} {D : Addr} (h : excCB K D = true) : ExcC K D := by
  unfold excCB at h
  simp only [Bool.and_eq_true, decide_eq_true_eq] at h
  obtain ⟨⟨⟨⟨⟨⟨⟨h1, h2⟩, h3⟩, h4⟩, h5⟩, h6⟩, h7⟩, h8⟩ := h
  exact ⟨h1, h2, h3, h4, h5, h6, h7, h8⟩
def excB1 (K : PySem.W.Frag) (c : Str) : Bool := (He.Fa.glo c).ok K && PySem.W.keepIn K (.ref (He.ga K c)) && excCB K (He.ga K c) && PySem.W.excIn K (He.ga K c) bmV "ValueError.__new__" && decide (PySem.W.typeIn K (.ref (He.ga K c)) = some (.type "type"))
def exB (G : GS) (K : PySem.W.Frag) : Bool := G.excs.all (excB1 K) && G.excs.all (fun c => G.exask.all fun u => decide (PySem.W.kitOne K (.ref (He.ga K c)) (clV K u) = some (exIs c u))) &&
  G.excs.all (fun c => G.excs.all fun d => decide (PySem.W.exmOne K (.ref (He.ga K c)) (.ref (He.ga K d)) = some (exIs c (.own d)))) && (G.lfs ++ G.hfs).all (fun p => (He.Fa.glo p.2).ok K)
theorem exB_ok {G : GS} {K : PySem.W.Frag} {h : Heap} {mg : Str → Option Value} (X : K.In h) (N : h.Ns mainGlobals mg) (c : exB G K = true) : ExF G K mg ∧ ∀ f x, (f, x) ∈ G.lfs ++ G.hfs → mg x = some (.ref (He.ga K x)) := by
  unfold exB at c
  simp only [Bool.and_eq_true, List.all_eq_true, decide_eq_true_eq] at c
  obtain ⟨⟨⟨c2, c3⟩, c4⟩, c5⟩ := c
  have c2' : ∀ x ∈ G.excs, (He.Fa.glo x).ok K = true ∧ PySem.W.keepIn K (.ref (He.ga K x)) = true ∧ excCB K (He.ga K x) = true ∧ PySem.W.excIn K (He.ga K x) bmV "ValueError.__new__" = true ∧ PySem.W.typeIn K (.ref (He.ga K x)) = some (.type "type") := fun x hx => by
    have q := c2 x hx
    unfold excB1 at q
    simp only [Bool.and_eq_true, decide_eq_true_eq] at q
    obtain ⟨⟨⟨⟨q1, q2⟩, q3⟩, q4⟩, q5⟩ := q
    exact ⟨q1, q2, q3, q4, q5⟩
  exact ⟨⟨fun x hx => ⟨He.glo_ok X N (c2' x hx).1, (c2' x hx).2.1⟩, fun x hx u hu => c3 x hx u hu, fun x hx d hd => c4 x hx d hd, fun x hx => excCB_ok (c2' x hx).2.2.1,
    fun x hx => ⟨_, _, _, _, PySem.F.excBase_ValueError, (c2' x hx).2.2.2.1⟩, fun x hx => (c2' x hx).2.2.2.2⟩, fun f x hf => He.glo_ok X N (c5 (f, x) hf)⟩
def gB (G : GS) (K : PySem.W.Frag) : Bool :=
  G.free.all (fun x => (He.Fa.free x).ok K) && G.consts.all (fun p => conB K p.1 p.2) && G.owns.all (fun c => (He.Fa.glo c).ok K) &&
  G.asked.all (fun u => (bt7.map Cl.bt ++ G.classes.map Cl.own).all fun t => decide (PySem.W.kitOne K (clV K t) (clV K u) = some (isOne t u))) &&
  G.classes.all (insB K) && G.flds.all (fun p => (He.Fa.cls p.1).ok K && (He.Fa.noat p.1 p.2).ok K) && G.fns.all (fun p => match p.2.2 with
    | none => (He.Fa.glo p.2.1).ok K
    | some _ => true) &&
  G.meths.all (fun p => (He.Fa.cls p.1).ok K && (He.Fa.meth p.1 p.2).ok K && (!decide (p.2 = ("__eq__" : Str)) || neIn K (He.ga K p.1) (He.fAd K (p.1, some p.2)))) && G.makes.all (fun p => (He.Fa.mkr p.1).ok K && (He.Fa.glo p.1).ok K && G.fns.contains (p.2, p.1, some ("__init__" : Str))) && exB G K
theorem dv_rep [tb : Tb] {K : PySem.W.Frag} {H : Hp} : ∀ {xs : List PV} {ds : List He.Dv}, allOf toDv xs = some ds → (xs.all fun v => match v with
      | .str z => decide (z.length ≤ 1000)
      | _ => true) = true → RepVs K H xs (ds.map (He.Dv.v K))
  | [], ds, h, _ => by cases h; exact RepVs.nil
  | x :: xs, ds, h, hz => by
    unfold allOf at h
    simp only [List.all_cons, Bool.and_eq_true] at hz
    cases q : toDv x with
    | none => rw [q] at h; cases h
    | some d =>
      cases q2 : allOf toDv xs with
      | none => rw [q, q2] at h; cases h
      | some es =>
        rw [q, q2] at h
        cases h
        refine RepVs.cons ?_ (dv_rep q2 hz.2)
        cases x with
        | non => cases q; rfl
        | bl _ => cases q; rfl
        | int _ => cases q; rfl
        | str z => cases q; exact ⟨rfl, le_line (of_decide_eq_true hz.1)⟩
        | _ => cases q
theorem gB_ok [tb : Tb] {G : GS} {K : PySem.W.Frag} {h : Heap} {mg : Str → Option Value} (X : K.In h) (N : h.Ns mainGlobals mg) (c : gB G K = true) : Gs G K mg := by
  unfold gB at c
  simp only [Bool.and_eq_true, List.all_eq_true] at c
  obtain ⟨⟨⟨⟨⟨⟨⟨⟨⟨c1, c2⟩, c3⟩, c4⟩, c5⟩, c6⟩, c7⟩, c8⟩, c9⟩, c10⟩ := c
  refine ⟨fun x hx => He.free_ok X N (c1 x hx), fun p hp => ?_, fun x hx => He.glo_ok X N (c3 x hx), fun t u ht hu => ?_, fun x hx => ?_, fun p hp => ⟨He.cls_ok (c6 p hp).1, He.noat_ok (c6 p hp).2⟩, fun f x hf => He.glo_ok X N (c7 (f, x, none) hf),
    fun p hp => ⟨He.cls_ok (c8 p hp).1.1, He.meth_ok (c8 p hp).1.2, fun e => by
      have q := (c8 p hp).2
      rw [decide_eq_true e] at q
      simpa using q⟩, fun p hp => ⟨He.mkr_ok (c9 p hp).1.1, He.glo_ok X N (c9 p hp).1.2, by simpa using (c9 p hp).2⟩, (exB_ok X N c10).1⟩
  · have q := c2 p hp
    obtain ⟨x, v⟩ := p
    cases v with
    | int i =>
      obtain ⟨t, e⟩ := He.int_ok X N q
      exact ⟨_, .int i, e, ⟨t, rfl⟩, fun H => rfl⟩
    | str z =>
      have q' : ((He.Fa.str x z).ok K && decide (z.length ≤ 1000)) = true := q
      rw [Bool.and_eq_true] at q'
      obtain ⟨t, e⟩ := He.str_ok X N q'.1
      exact ⟨_, .str z, e, ⟨t, rfl⟩, fun H => ⟨rfl, le_line (of_decide_eq_true q'.2)⟩⟩
    | tup xs =>
      have q' : ((He.Fa.glo x).ok K && (match allOf toDv xs with
        | some ds => He.tupB K x ds && decide (xs.length ≤ 1000) && xs.all fun v => match v with
          | .str z => decide (z.length ≤ 1000)
          | _ => true
        | none => false)) = true := q
      rw [Bool.and_eq_true] at q'
      obtain ⟨q1, q2⟩ := q'
      cases q3 : allOf toDv xs with
      | none => rw [q3] at q2; cases q2
      | some ds =>
        rw [q3] at q2
        simp only [Bool.and_eq_true, decide_eq_true_eq] at q2
        obtain ⟨⟨q4, q5⟩, q6⟩ := q2
        exact ⟨_, .ref (He.ga K x), He.glo_ok X N q1, rfl, fun H => ⟨He.ga K x, _, rfl, He.tupB_ok q4 H, le_line q5, dv_rep q3 q6⟩⟩
    | _ => cases q
  · have q := c4 u hu t (by
      rw [List.mem_append]
      rcases ht with ⟨b, hb, rfl⟩ | ⟨d, hd, rfl⟩
      · exact .inl (List.mem_map_of_mem hb)
      · exact .inr (List.mem_map_of_mem hd))
    exact of_decide_eq_true q
  · have q := c5 x hx
    unfold insB at q
    simp only [Bool.and_eq_true, decide_eq_true_eq] at q
    obtain ⟨⟨⟨⟨q1, q2⟩, q3⟩, q4⟩, q5⟩ := q
    exact ⟨He.cls_ok q1, q2, q3, q4, q5⟩

theorem gB_lfs {G : GS} {K : PySem.W.Frag} {h : Heap} {mg : Str → Option Value} (X : K.In h) (N : h.Ns mainGlobals mg) (c : gB G K = true) : ∀ f x, (f, x) ∈ G.lfs → mg x = some (.ref (He.ga K x)) := by
  unfold gB at c
  simp only [Bool.and_eq_true] at c
  exact fun f x h => (exB_ok X N c.2).2 f x (List.mem_append_left _ h)
theorem gB_hfs {G : GS} {K : PySem.W.Frag} {h : Heap} {mg : Str → Option Value} (X : K.In h) (N : h.Ns mainGlobals mg) (c : gB G K = true) : ∀ f x, (f, x) ∈ G.hfs → mg x = some (.ref (He.ga K x)) := by
  unfold gB at c
  simp only [Bool.and_eq_true] at c
  exact fun f x h => (exB_ok X N c.2).2 f x (List.mem_append_right _ h)

abbrev AlG : Type := Bool × He.AlD
/-- the tables of the makers -/
def tabG (tf : List He.Defn) (K : PySem.W.Frag) (g : Addr → Option Obj) : Bool := He.tabsB g tf K && decide ((tf.map fun p => (He.cT K p).2).Nodup)
def obsT (G : GS) (fn : List He.DefD) (tf : List He.Defn) (K : PySem.W.Frag) (g : Addr → Option Obj) : AlG := (gB G K && tabG tf K g, He.obsD [] fn K)
structure SaysG (G : GS) (fn : List He.DefD) (tf : List He.Defn) (K : PySem.W.Frag) (h : Heap) : Prop where
  g : gB G K = true
  d : He.SaysD [] fn K
  nd : (tf.map fun p => (He.cT K p).2).Nodup
  hd : ∀ p ∈ tf, PySem.W.codeHdIn K (He.cT K p).1 (He.cT K p).2 = true
  out : ∀ p ∈ tf, K.lookup (He.cT K p).2 = none
  empty : ∀ p ∈ tf, h.get? (He.cT K p).2 = some { cls := .none, data := .fields #[] }
/-- what can be reached, level by level; m: a bit for each place that has been seen -/
def addN : List Addr → Nat → List Addr → (Nat → List Addr → List Addr) → List Addr
  | [], m, new, k => k m new.reverse
  | a :: r, m, new, k => HandSHeadRun.frNat a fun a => match Nat.beq (Nat.land (Nat.shiftRight m a) 1) 1 with
    | true => addN r m new k
    | false => HandSHeadRun.frNat (Nat.lor m (Nat.shiftLeft 1 a)) fun m => addN r m (a :: new) k
def asN (g : Addr → Option Obj) : Nat → Nat → List Addr → List Addr
  | 0, _, fr => fr
  | n + 1, m, fr => fr ++ addN (fr.flatMap fun a => match g a with
    | some o => He.refsD o
    | none => []) m [] fun m new => asN g n m new
def asG (g : Addr → Option Obj) (n : Nat) : List Addr := HandSHeadRun.frNat mainGlobals fun a => asN g n (Nat.shiftLeft 1 a) [a]
def obsGG (n : Nat) (G : GS) (fn : List He.DefD) (tf : List He.Defn) (g : Addr → Option Obj) : AlG := obsT G fn tf (He.frT g (asG g n)) g
theorem saysG_of {n : Nat} {G : GS} {fn : List He.DefD} {tf : List He.Defn} {h : Heap} (e : obsGG n G fn tf h.get? = (true, He.valD fn)) : SaysG G fn tf (He.frT h.get? (asG h.get? n)) h := by
  unfold obsGG at e
  generalize asG h.get? n = as at e ⊢
  have e1 : (gB G (He.frT h.get? as) && tabG tf (He.frT h.get? as) h.get?) = true := congrArg (fun z : AlG => z.1) e
  have e2 : He.obsD [] fn (He.frT h.get? as) = He.valD fn := congrArg (fun z : AlG => z.2) e
  unfold tabG at e1
  simp only [Bool.and_eq_true, decide_eq_true_eq] at e1
  obtain ⟨h1, h2, h3⟩ := e1
  have key : ∀ p ∈ tf, PySem.W.codeHdIn (He.frT h.get? as) (He.cT (He.frT h.get? as) p).1 (He.cT (He.frT h.get? as) p).2 = true ∧ ∃ o, h.get? (He.cT (He.frT h.get? as) p).2 = some o ∧ He.emptyTab o = true := fun p hp => by
    have q := List.all_eq_true.mp h2 p hp
    simp only [Bool.and_eq_true] at q
    refine ⟨q.1, ?_⟩
    have q2 := q.2
    split at q2
    · rename_i o e
      exact ⟨o, e, q2⟩
    · cases q2
  exact ⟨h1, e2, h3, fun p hp => (key p hp).1, fun p hp => by
    obtain ⟨_, o, q, z⟩ := key p hp
    exact He.frT_none q z, fun p hp => by
    obtain ⟨_, o, q, z⟩ := key p hp
    rw [q, He.emptyTab_eq z]⟩
def hookGG (n : Nat) (G : GS) (fn : List He.DefD) (tf : List He.Defn) : PySem.W.Hook where
  α := AlG
  obs := fun s => obsGG n G fn tf s.heap.get?
  val := fun _ => (true, He.valD fn)
  says := fun _ h => ∃ K : PySem.W.Frag, K.In h ∧ SaysG G fn tf K h
  of := fun _ _ e => ⟨_, He.frT_in, saysG_of e⟩
  keeps := fun _ _ _ ⟨K, hK, c⟩ k => ⟨K, PySem.W.Frag.In.keeps hK k, ⟨c.g, c.d, c.nd, c.hd, c.out, fun p hp => k _ _ (c.empty p hp)⟩⟩
theorem obsGG_eq {n : Nat} {G : GS} {fn : List He.DefD} {tf : List He.Defn} {g : Addr → Option Obj} {s : Shared} (h : ∀ a, g a = s.heap.get? a) : obsGG n G fn tf g = (hookGG n G fn tf).obs s := by
  have e : g = s.heap.get? := funext h
  rw [e] <;> rfl
theorem map4 {α β γ δ ε : Type} {o : Option α} {f : α → β} {g : α → γ} {h : α → δ} {k : α → ε} {a : β} {b : γ} {c : δ} {d : ε} (h1 : o.map f = some a) (h2 : o.map g = some b) (h3 : o.map h = some c) (h4 : o.map k = some d) : o.map (fun s => (f s, g s, (h s, k s))) = some (a, b, (c, d)) := by
  cases o with
  | none => cases h1
  | some s =>
    simp only [Option.map_some, Option.some.injEq] at h1 h2 h3 h4 ⊢
    rw [h1, h2, h3, h4]
/-- binding of positional parameters alone, by a check -/
def bindOk (e : FE) : Prop := ∀ (kV doc pm : Value) (an : Option Addr) (cdv ct : Value) (us : List Value), us.length = e.ps.length →
  bindArgs (PySem.W.fnOf e.d.name e.d.qual e.d.params e.d.body e.d.scope .none kV doc pm an cdv ct) ⟨us, []⟩ = pure (e.ps.zip us)
def plainD (d : He.DefD) : Prop := (∀ K, d.dvs K = []) ∧ (∀ K, d.kws K = [])
theorem gf_of {G : GS} {FT : Nat → Option FI} {es : List FE} {K : PySem.W.Frag} {fn : List He.DefD} (c : He.SaysD [] fn K) (hfn : ∀ e ∈ es, e.d ∈ fn) (hex : (G.fns.all fun p => es.any fun e => e.f == p.1 && decide (e.d.at_ = p.2)) = true)
    (hfe : (es.all fun e => feB G FT e) = true) (hb : ∀ e ∈ es, bindOk e) (hp : ∀ e ∈ es, plainD e.d) : Gf G FT es K := by
  refine ⟨fun f p hf => ?_, fun e he => ⟨List.all_eq_true.mp hfe e he, ?_⟩⟩
  · have q := List.all_eq_true.mp hex (f, p) hf
    obtain ⟨e, he, q⟩ := List.any_eq_true.mp q
    simp only [Bool.and_eq_true, decide_eq_true_eq, beq_iff_eq] at q
    exact ⟨e, he, q.1, q.2⟩
  · obtain ⟨i, hi⟩ := List.getElem?_of_mem (hfn e he)
    obtain ⟨fd, F⟩ := c.def_ i hi
    obtain ⟨p1, p2⟩ := hp e he
    rw [p1, p2] at F
    exact ⟨fd, F, F.bindsN (hb e he)⟩
theorem gt_of {G : GS} {FT : Nat → Option FI} {ts : List FE} {K : PySem.W.Frag} {mg : Str → Option Value} {fn : List He.DefD} (c : He.SaysD [] fn K) (hfn : ∀ e ∈ ts, e.d ∈ fn) (hmg : ∀ f x, (f, x) ∈ G.lfs → mg x = some (.ref (He.ga K x)))
    (hex : (G.lfs.all fun p => ts.any fun e => e.f == p.1 && decide (e.d.name = p.2) && decide (e.d.at_ = (p.2, none)) && toB G FT e) = true) (hb : ∀ e ∈ ts, bindOk e) (hp : ∀ e ∈ ts, plainD e.d)
    {hs : List FE} (hfn2 : ∀ e ∈ hs, e.d ∈ fn) (hmg2 : ∀ f x, (f, x) ∈ G.hfs → mg x = some (.ref (He.ga K x)))
    (hex2 : (G.hfs.all fun p => hs.any fun e => e.f == p.1 && decide (e.d.at_ = (p.2, none)) && hoB G FT e) = true) (hb2 : ∀ e ∈ hs, bindOk e) (hp2 : ∀ e ∈ hs, plainD e.d) : Gt G FT K mg := by
  refine ⟨fun f x hf => ?_, fun f x hf => ?_⟩
  rotate_left
  · have q := List.all_eq_true.mp hex2 (f, x) hf
    obtain ⟨e, he, q⟩ := List.any_eq_true.mp q
    simp only [Bool.and_eq_true, decide_eq_true_eq, beq_iff_eq] at q
    obtain ⟨⟨q1, q3⟩, q4⟩ := q
    obtain ⟨i, hi⟩ := List.getElem?_of_mem (hfn2 e he)
    obtain ⟨fd, F⟩ := c.def_ i hi
    obtain ⟨p1, p2⟩ := hp2 e he
    rw [p1, p2] at F
    exact ⟨e, q1, by rw [q3]; exact hmg2 f x hf, q4, fd, F, F.bindsN (hb2 e he)⟩
  have q := List.all_eq_true.mp hex (f, x) hf
  obtain ⟨e, he, q⟩ := List.any_eq_true.mp q
  simp only [Bool.and_eq_true, decide_eq_true_eq, beq_iff_eq] at q
  obtain ⟨⟨⟨q1, q2⟩, q3⟩, q4⟩ := q
  obtain ⟨i, hi⟩ := List.getElem?_of_mem (hfn e he)
  obtain ⟨fd, F⟩ := c.def_ i hi
  obtain ⟨p1, p2⟩ := hp e he
  rw [p1, p2] at F
  exact ⟨e, q1, q2, by rw [q3]; exact hmg f x hf, q4, fd, F, F.bindsN (hb e he)⟩
/-- the makers' tables, by their code objects in K -/
abbrev tbOf (K : PySem.W.Frag) (ms : List FE) : Tb := ⟨ms.map fun e => ((He.cT K e.d.at_).2, e.d.qual ++ ".<locals>." ++ "<lambda>"), fun _ _ => False, fun _ _ h => h.elim⟩
theorem gtb_of {G : GS} {fn : List He.DefD} {es ms : List FE} {K : PySem.W.Frag} {h : Heap} {mg : Str → Option Value} {base : Heap} (c : SaysG G fn (ms.map (·.d.at_)) K h)
    (hms : ∀ e ∈ es, e.lam = true → e ∈ ms) (hT : ∀ p ∈ (ms.map (·.d.at_)).map (He.cT K), LamX.TabB base mg p.1 p.2) : @Gtb (tbOf K ms) K mg base es := by
  intro e he hl
  have hm := hms e he hl
  refine ⟨(He.cT K e.d.at_).1, (He.cT K e.d.at_).2, fun fd F => ?_, hT _ (List.mem_map_of_mem (List.mem_map_of_mem hm)), List.mem_map_of_mem hm, fun p hp ep => ?_⟩
  · obtain ⟨oc, od, dV, kV, doc, pm, an, cdv, ct, osl, rfl, lk, hcd, _, _⟩ := F.ex
    obtain ⟨c', e'⟩ := He.codeIn_ref hcd
    subst e'
    show Value.ref c' = _
    rw [show (He.cT K e.d.at_).1 = c' from He.codeOf_eq lk rfl]
  · obtain ⟨e2, he2, rfl⟩ := List.mem_map.mp hp
    have nd := c.nd
    rw [List.map_map] at nd
    have : e2 = e := by
      have key : ∀ (l : List FE), (l.map ((fun p => (He.cT K p).2) ∘ fun e : FE => e.d.at_)).Nodup → ∀ x ∈ l, ∀ y ∈ l, (He.cT K x.d.at_).2 = (He.cT K y.d.at_).2 → x = y := by
        intro l
        induction l with
        | nil => intro _ x hx; cases hx
        | cons z zs ih =>
          intro nd x hx y hy exy
          rw [List.map_cons, List.nodup_cons] at nd
          rcases List.mem_cons.mp hx with rfl | hx2 <;> rcases List.mem_cons.mp hy with rfl | hy2
          · rfl
          · exact (nd.1 (List.mem_map.mpr ⟨y, hy2, exy.symm⟩)).elim
          · exact (nd.1 (List.mem_map.mpr ⟨x, hx2, exy⟩)).elim
          · exact ih nd.2 x hx2 y hy2 exy
      exact key ms nd e2 he2 e hm ep
    rw [this]

/-- the law by its own wp: a script of ns, at a -/
theorem law_sp [tb : Tb] {K : PySem.W.Frag} {FT : Nat → Option FI} {k f : Nat} (hlaw : ∀ (ns : List Int) (v : PV) (μ : PM), ns.length ≤ 63 → (∀ z ∈ ns, Builtin.Int.intBits z ≤ 1048576) → seqOf μ v = some (ns.map .int) →
      (CS2 FT k).fn f [v] μ (fun r _ => r = .bl true) (fun _ _ => False))
    (H : Hp) (a : Addr) (ns : List Int) (hl : ns.length ≤ 63) (hb : ∀ z ∈ ns, Builtin.Int.intBits z ≤ 1048576) (hT : TbOk H) (hS : SqL K H a (ns.map V.int)) :
    spOf K ((CS2 FT k).fn f) [.ref a] H (fun v _ => v = .bl true) (fun _ _ _ => False) := by
  have hz : (ns.map PV.int).length ≤ sizeLine := by rw [List.length_map]; exact Nat.le_trans hl (by rw [sizeLine_eq]; decide)
  have one : ∀ (po : PO) (ho : HO), RepO K H po ho → H a = some ho → seqOf (fun b => if b = a then some po else none) (.ref a) = some (ns.map .int) → spOf K ((CS2 FT k).fn f) [.ref a] H (fun v _ => v = .bl true) (fun _ _ _ => False) := by
    intro po ho r e hs
    refine ⟨[.ref a], fun b => if b = a then some po else none, _, _, RepVs.cons rfl RepVs.nil, ⟨fun b p e' => ?_, hT⟩, hlaw ns (.ref a) _ hl hb hs, fun v μ' w H' r m e p => ?_, fun _ _ _ _ _ _ _ _ z => z.elim⟩
    · by_cases q : b = a
      · subst q
        have e2 : (if b = b then some po else none) = some p := e'
        rw [if_pos rfl] at e2
        cases e2
        exact ⟨_, e, r⟩
      · have e2 : (if b = a then some po else none) = some p := e'
        rw [if_neg q] at e2; cases e2
    · subst p; exact r
  rcases hS with hS | hS
  · rcases hS with hS | ⟨o, hS⟩
    · exact one (.lst (ns.map .int)) _ ⟨_, rfl, hz, RepVs.ints ns⟩ hS (by simp [seqOf])
    · exact one (.frz (ns.map .int)) _ ⟨o, _, rfl, hz, RepVs.ints ns⟩ hS (by simp [seqOf])
  · refine ⟨[.kl (ns.map .int)], fun _ => none, _, _, RepVs.cons ⟨a, _, rfl, hS, hz, RepVs.ints ns⟩ RepVs.nil, ⟨fun b p e => (by cases e), hT⟩, hlaw ns (.kl (ns.map .int)) _ hl hb rfl, fun v μ' w H' r m e p => ?_, fun _ _ _ _ _ _ _ _ z => z.elim⟩
    subst p; exact r
theorem walk_G {l : PySem.W.OpenLaw} {n k : Nat} {q : Program} {loose : List Str} {XP : (Str → Option Value) → Heap → Prop} {YP : World → Heap → Prop} {d : DefRec} {x : Str} {ms : List FE} {FT : Nat → Option FI} {f : Nat}
    (hn : l.most = some n) (hn2 : n ≤ 63) (hdf : d.params.defaults = []) (hr : Room k callerA)
    (F : ∀ (w : World) (mg : Str → Option Value) (fa : Addr) (h : Heap), YP w h → h.Ns mainGlobals mg → mg d.name = some (.ref fa) →
      ∃ (K : PySem.W.Frag) (fd : FuncData), K.In h ∧ (∀ e ∈ ms, h.get? (He.cT K e.d.at_).2 = some { cls := .none, data := .fields #[] } ∧ K.lookup (He.cT K e.d.at_).2 = none ∧ PySem.W.codeHdIn K (He.cT K e.d.at_).1 (He.cT K e.d.at_).2 = true) ∧
        (∀ (s : Shared) (u : Value), BindsTo s fd ⟨[u], []⟩ [(x, u)]) ∧
        (∀ (ns : List Int) (v : PV) (μ : PM), ns.length ≤ 63 → (∀ z ∈ ns, Builtin.Int.intBits z ≤ 1048576) → seqOf μ v = some (ns.map .int) → (CS2 FT k).fn f [v] μ (fun r _ => r = .bl true) (fun _ _ => False)) ∧
        ∀ base : Heap, K.In base → base.Ns mainGlobals mg → (∀ p ∈ (ms.map (·.d.at_)).map (He.cT K), LamX.TabB base mg p.1 p.2) → FnOk l.prog w K mg base (L2N.CX l.prog w) k fa fd [x] (@spOf (tbOf K ms) K ((CS2 FT k).fn f))) :
    PySem.W.WalkO q loose XP YP l.row.toRowW d [] (fun f vs => PySem.call f vs) := by
  refine LamX.walk_ofTsE (x := x) (CX := fun w => L2N.CX l.prog w) hn (Nat.le_trans hn2 (by rw [sizeLine_eq]; decide)) hdf hr (fun w mg fa h Y N hmg => ?_) (fun w H s e s' c => by
    obtain ⟨_, _, _, _, _, _, _, _, _, _, _, _, z⟩ := c
    exact z.elim)
  obtain ⟨K, fd, KX, h0, hb, hlaw, hF⟩ := F w mg fa h Y N hmg
  refine ⟨K, KX, fd, (ms.map (·.d.at_)).map (He.cT K), _, fun p hp => ?_, fun p hp => ?_, fun p hp => ?_, hb, fun H a ns hl hbits hH hS => law_sp (tb := tbOf K ms) (f := f) hlaw H a ns (Nat.le_trans hl hn2) hbits ?_ hS, hF⟩
  · obtain ⟨q, hq, rfl⟩ := List.mem_map.mp hp
    obtain ⟨e, he, rfl⟩ := List.mem_map.mp hq
    exact (h0 e he).1
  · obtain ⟨q, hq, rfl⟩ := List.mem_map.mp hp
    obtain ⟨e, he, rfl⟩ := List.mem_map.mp hq
    exact (h0 e he).2.1
  · obtain ⟨q, hq, rfl⟩ := List.mem_map.mp hp
    obtain ⟨e, he, rfl⟩ := List.mem_map.mp hq
    exact PySem.W.codeHd_of_K KX (h0 e he).2.2
  · refine @TbOk.mk (tbOf K ms) _ (fun p hp => ?_) (fun _ _ z => z.elim)
    obtain ⟨e, he, rfl⟩ := List.mem_map.mp hp
    exact LamX.TabS.nil (hH _ (List.mem_map_of_mem (List.mem_map_of_mem he)))
end G

namespace G
open PySem PySem.Spec PyProof.Rows L2
/-- a call that has enough levels runs its body -/
theorem fn_run {FT : Nat → Option FI} {f : Nat} {fi : FI} {k : Nat} {vs : List PV} {μ : PM} {P : Post} {X : XPost} (h : FT f = some fi) (hl : vs.length = fi.ps)
    (b : wpSs (CS2 FT (k + 1)) fi.body { nx := fun _ μ' => P .non μ', rt := fun v μ' => ∃ μ'', Sub μ'' μ' ∧ P v μ'', bk := fun _ _ => False, ct := fun _ _ => False, rs := fun x _ μ' => ∃ μ'', Sub μ'' μ' ∧ X x μ'' } (startP fi.N vs) μ) :
    (CS2 FT (k + 2)).fn f vs μ P X := by
  show (match FT f with
    | some fi => vs.length = fi.ps ∧ _
    | none => False)
  rw [h]
  exact ⟨hl, .inr ⟨Nat.succ_pos _, b⟩⟩
theorem fn_up {FT : Nat → Option FI} {f : Nat} {fi : FI} {k : Nat} {vs : List PV} {μ : PM} {P : Post} {X : XPost} (h : FT f = some fi) (hl : vs.length = fi.ps) (b : (CS2 FT k).fn f vs μ P X) : (CS2 FT (k + 1)).fn f vs μ P X := by
  show (match FT f with
    | some fi => vs.length = fi.ps ∧ _
    | none => False)
  rw [h]
  exact ⟨hl, .inl b⟩
/-- behind a return nothing is forgotten -/
theorem rt_here {P : Post} {v : PV} {μ : PM} (h : P v μ) : ∃ μ'', Sub μ'' μ ∧ P v μ'' := ⟨μ, Sub.refl, h⟩
def getV : PE_ → Nat → (PV → Prop) → Prop
  | [], _, _ => False
  | some v :: _, 0, k => k v
  | none :: _, 0, _ => False
  | _ :: r, i + 1, k => getV r i k
def getT : List PV → Nat → (PV → Prop) → Prop
  | [], _, _ => False
  | v :: _, 0, k => k v
  | _ :: r, i + 1, k => getT r i k
theorem getV_0 {v : PV} {r : PE_} {k : PV → Prop} : getV (some v :: r) 0 k = k v := propext Iff.rfl
theorem getV_s {o : Option PV} {r : PE_} {i : Nat} {k : PV → Prop} : getV (o :: r) (i + 1) k = getV r i k := by cases o <;> rfl
theorem getT_0 {v : PV} {r : List PV} {k : PV → Prop} : getT (v :: r) 0 k = k v := propext Iff.rfl
theorem getT_s {o : PV} {r : List PV} {i : Nat} {k : PV → Prop} : getT (o :: r) (i + 1) k = getT r i k := propext Iff.rfl
theorem getV_eq : ∀ (ρ : PE_) (i : Nat) (k : PV → Prop), (∃ v, ρ[i]? = some (some v) ∧ k v) = getV ρ i k
  | [], i, k => by simp [getV]
  | some v :: r, 0, k => by simp [getV]
  | none :: r, 0, k => by simp [getV]
  | o :: r, i + 1, k => by
    rw [getV_s, ← getV_eq r i k]
    simp
theorem getT_eq : ∀ (xs : List PV) (i : Nat) (k : PV → Prop), (∃ v, xs[i]? = some v ∧ k v) = getT xs i k
  | [], i, k => by simp [getT]
  | v :: r, 0, k => by simp [getT]
  | o :: r, i + 1, k => by
    rw [getT_s, ← getT_eq r i k]
    simp
section
variable {C : Calls} {μ : PM} {P : Post} {X : XPost} {ρ : PE_} {D : PEnds} {e a b c d : E} {es : List E} {v w x y : PV}
theorem m_int {i : Int} : mat (.int i) μ P = P (.int i) μ := propext Iff.rfl
theorem m_bl {i : Bool} : mat (.bl i) μ P = P (.bl i) μ := propext Iff.rfl
theorem m_non : mat .non μ P = P .non μ := propext Iff.rfl
theorem m_str {i : Str} : mat (.str i) μ P = P (.str i) μ := propext Iff.rfl
theorem m_tup {i : List PV} : mat (.tup i) μ P = P (.tup i) μ := propext Iff.rfl
theorem m_ref {i : Addr} : mat (.ref i) μ P = P (.ref i) μ := propext Iff.rfl
theorem e_var {i : Nat} : wpE C (.var i) ρ μ P X = getV ρ i fun v => P v μ := by
  simp only [wpE]
  exact getV_eq ρ i _
theorem e_cst : wpE C (.cst v) ρ μ P X = P v μ := by simp only [wpE]
theorem e_gc {n : Str} : wpE C (.gc n v) ρ μ P X = P v μ := by simp only [wpE]
theorem e_tup : wpE C (.tup es) ρ μ P X = wpEs C es ρ μ (fun vs μ' => vs.length ≤ 1000 ∧ P (.tup vs) μ') X := by simp only [wpE]
theorem e_lst : wpE C (.lst es) ρ μ P X = wpEs C es ρ μ (fun vs μ' => vs.length ≤ 1000 ∧ P (.tmp vs) μ') X := by simp only [wpE]
theorem e_bin {op : Op} : wpE C (.bin op a b) ρ μ P X = wpE C a ρ μ (fun x μ1 => wpE C b ρ μ1 (fun y μ2 => binW op x y μ2 P) X) X := by simp only [wpE]
theorem e_cmp {op : Cop} : wpE C (.cmp op a b) ρ μ P X = wpE C a ρ μ (fun x μ1 => wpE C b ρ μ1 (fun y μ2 => cmpW op x y μ2 P) X) X := by simp only [wpE]
theorem e_neg : wpE C (.neg a) ρ μ P X = wpE C a ρ μ (fun x μ1 => ∃ i, x = .int i ∧ P (.int (-i)) μ1) X := by simp only [wpE]
theorem e_not : wpE C (.not a) ρ μ P X = wpE C a ρ μ (fun x μ1 => ∃ b, x = .bl b ∧ P (.bl (!b)) μ1) X := by simp only [wpE]
theorem e_and : wpE C (.and a b) ρ μ P X = wpE C a ρ μ (fun x μ1 => ∃ c, x = .bl c ∧ if c = true then wpE C b ρ μ1 P X else P (.bl false) μ1) X := by simp only [wpE]
theorem e_or : wpE C (.or a b) ρ μ P X = wpE C a ρ μ (fun x μ1 => ∃ c, x = .bl c ∧ if c = true then P (.bl true) μ1 else wpE C b ρ μ1 P X) X := by simp only [wpE]
theorem e_ite : wpE C (.ite c a b) ρ μ P X = wpE C c ρ μ (fun x μ1 => ∃ k, x = .bl k ∧ if k = true then wpE C a ρ μ1 P X else wpE C b ρ μ1 P X) X := by simp only [wpE]
theorem e_chn {op op' : Cop} : wpE C (.chn op op' a b c) ρ μ P X = wpE C a ρ μ (fun x μ1 => wpE C b ρ μ1 (fun y μ2 => cmpW op x y μ2 fun z μ3 => ∃ k, z = .bl k ∧
      if k = true then wpE C c ρ μ3 (fun w μ4 => cmpW op' y w μ4 P) X else P (.bl false) μ3) X) X := by simp only [wpE]
theorem e_call {f : Nat} : wpE C (.call f es) ρ μ P X = wpEs C es ρ μ (fun vs μ1 => C.fn f vs μ1 P X) X := by simp only [wpE]
theorem e_bf {m : Bf} : wpE C (.bf m es) ρ μ P X = wpRs C es ρ μ (fun vs μ1 => bfW m vs μ1 P) X := by simp only [wpE]
theorem e_idx : wpE C (.idx a b) ρ μ P X = wpE C a ρ μ (fun x μ1 => wpE C b ρ μ1 (fun y μ2 => idxW x y μ2 P) X) X := by simp only [wpE]
theorem e_isi {cs : List Cl} {ts : List Str} {many : Bool} : wpE C (.isi e cs ts many) ρ μ P X = wpE C e ρ μ (fun x μ1 => isiW x cs ts μ1 P) X := by simp only [wpE]
theorem es_nil {Q : List PV → PM → Prop} : wpEs C [] ρ μ Q X = Q [] μ := by simp only [wpEs]
theorem es_cons {Q : List PV → PM → Prop} : wpEs C (e :: es) ρ μ Q X = wpE C e ρ μ (fun v μ1 => mat v μ1 fun v' μ2 => wpEs C es ρ μ2 (fun vs μ3 => Q (v' :: vs) μ3) X) X := by simp only [wpEs]
theorem rs_nil {Q : List PV → PM → Prop} : wpRs C [] ρ μ Q X = Q [] μ := by simp only [wpRs]
theorem rs_cons {Q : List PV → PM → Prop} : wpRs C (e :: es) ρ μ Q X = wpE C e ρ μ (fun v μ1 => wpRs C es ρ μ1 (fun vs μ3 => Q (v :: vs) μ3) X) X := by simp only [wpRs]
theorem ex_bl {q : Bool} {R : Bool → Prop} : (∃ c, PV.bl q = .bl c ∧ R c) = R q := by simp
theorem ex_int {q : Int} {R : Int → Prop} : (∃ c, PV.int q = .int c ∧ R c) = R q := by simp
theorem b_add {i j : Int} : binW .add (.int i) (.int j) μ P = P (.int (i + j)) μ := propext Iff.rfl
theorem b_sub {i j : Int} : binW .sub (.int i) (.int j) μ P = P (.int (i - j)) μ := propext Iff.rfl
theorem b_mul {i j : Int} : binW .mul (.int i) (.int j) μ P = (MulOk i j ∧ P (.int (i * j)) μ) := propext Iff.rfl
theorem b_mod {i j : Int} : binW .mod (.int i) (.int j) μ P = (0 < j ∧ P (.int (i % j)) μ) := propext Iff.rfl
theorem b_fdiv {i j : Int} : binW .fdiv (.int i) (.int j) μ P = (0 < j ∧ Builtin.divisionGoesByPylong i j = false ∧ P (.int (i / j)) μ) := propext Iff.rfl
theorem c_lt {i j : Int} : cmpW .lt (.int i) (.int j) μ P = P (.bl (decide (i < j))) μ := propext Iff.rfl
theorem c_le {i j : Int} : cmpW .le (.int i) (.int j) μ P = P (.bl (decide (i ≤ j))) μ := propext Iff.rfl
theorem c_gt {i j : Int} : cmpW .gt (.int i) (.int j) μ P = P (.bl (decide (j < i))) μ := propext Iff.rfl
theorem c_ge {i j : Int} : cmpW .ge (.int i) (.int j) μ P = P (.bl (decide (j ≤ i))) μ := propext Iff.rfl
theorem c_eq {i j : Int} : cmpW .eq (.int i) (.int j) μ P = P (.bl (decide (i = j))) μ := propext Iff.rfl
theorem c_ne {i j : Int} : cmpW .ne (.int i) (.int j) μ P = P (.bl (!decide (i = j))) μ := propext Iff.rfl
theorem f_abs {i : Int} : bfW .abs [.int i] μ P = P (.int (if i < 0 then -i else i)) μ := propext Iff.rfl
theorem atI_n {α : Type} {xs : List α} {n : Nat} : atI xs (n : Int) = xs[n]? := by
  by_cases h : n < xs.length
  · simp only [atI, ixN, if_pos (show (0 : Int) ≤ (n : Int) by omega), if_pos (show (n : Int) < (xs.length : Int) by omega)]
    simp
  · simp only [atI, ixN, if_pos (show (0 : Int) ≤ (n : Int) by omega), if_neg (show ¬ (n : Int) < (xs.length : Int) by omega)]
    simp [List.getElem?_eq_none (Nat.le_of_not_lt h)]
theorem i_tup {xs : List PV} {n : Nat} : idxW (.tup xs) (.int (no_index (OfNat.ofNat n))) μ P = getT xs n fun v => P v μ := by
  have e : idxW (.tup xs) (.int (OfNat.ofNat n)) μ P = ∃ ys v, seqOf μ (.tup xs) = some ys ∧ atI ys (n : Int) = some v ∧ P v μ := rfl
  rw [e, ← getT_eq]
  simp [seqOf, atI_n]
theorem ss_nil : wpSs C [] D ρ μ = D.nx ρ μ := by simp only [wpSs]
theorem ss_cons {s : S} {ss : List S} : wpSs C (s :: ss) D ρ μ = wpS C s { D with nx := fun ρ' μ' => wpSs C ss D ρ' μ' } ρ μ := by simp only [wpSs]
theorem s_set' {i : Nat} : wpS C (.set i e) D ρ μ = wpE C e ρ μ (fun v μ1 => mat v μ1 fun v' μ2 => D.nx (ρ.set i (some v')) μ2) (fun x μ' => D.rs x ρ μ') := by simp only [wpS]
theorem s_ret' : wpS C (.ret e) D ρ μ = wpE C e ρ μ (fun v μ1 => mat v μ1 D.rt) (fun x μ' => D.rs x ρ μ') := by simp only [wpS]
theorem s_ex' : wpS C (.ex e) D ρ μ = wpE C e ρ μ (fun _ μ1 => D.nx ρ μ1) (fun x μ' => D.rs x ρ μ') := by simp only [wpS]
theorem s_iff' {p q : List S} : wpS C (.iff c p q) D ρ μ = wpE C c ρ μ (fun v μ1 => ∃ k, v = .bl k ∧ if k = true then wpSs C p D ρ μ1 else wpSs C q D ρ μ1) (fun x μ' => D.rs x ρ μ') := by simp only [wpS]
theorem s_par' {is : List Nat} : wpS C (.par is es) D ρ μ = wpEs C es ρ μ (fun vs μ1 => is.length = vs.length ∧ D.nx ((is.zip vs).foldl (fun r (p : Nat × PV) => r.set p.1 (some p.2)) ρ) μ1) (fun x μ' => D.rs x ρ μ') := by simp only [wpS]
theorem s_retN' : wpS C .retN D ρ μ = D.rt .non μ := by simp only [wpS]
theorem s_brk' : wpS C .brk D ρ μ = D.bk ρ μ := by simp only [wpS]
theorem s_cont' : wpS C .cont D ρ μ = D.ct ρ μ := by simp only [wpS]
theorem s_pass' : wpS C .pass D ρ μ = D.nx ρ μ := by simp only [wpS]
theorem s_setT' {ts : List Tg} : wpS C (.setT ts e) D ρ μ = wpE C e ρ μ (fun v μ1 => asgT (.tp ts) v ρ μ1 D.nx) (fun x μ' => D.rs x ρ μ') := by simp only [wpS]
theorem s_loop' {k : IK} {src : List E} {tg : Tg} {body : List S} : wpS C (.loop k src tg body) D ρ μ = wpRs C src ρ μ (fun vs μ1 => ∃ items, itemsOf μ1 k vs = some items ∧
      walkW (fun μ' => itemsOf μ' k vs = some items) (fun x ρ' μ' k' => asgT tg x ρ' μ' fun ρ2 μ2 => wpSs C body { D with nx := k', ct := k', bk := D.nx } ρ2 μ2) D.nx items ρ μ1) (fun x μ' => D.rs x ρ μ') := by simp only [wpS]
theorem e_comp {k : IK} {src : List E} {tg : Tg} {own : List Nat} {cond : List E} {elt : E} : wpE C (.comp k src tg own cond elt) ρ μ P X = wpRs C src ρ μ (fun vs μ1 => ∃ items, itemsOf μ1 k vs = some items ∧
      compW (fun μ' => itemsOf μ' k vs = some items) (fun x μ' k' => asgT tg x (wipeP ρ own) μ' fun ρ2 μ2 => wpCs C cond ρ2 μ2 (fun b μ3 => if b = true then wpE C elt ρ2 μ3 (fun y μ4 => mat y μ4 fun y' μ5 => k' (some y') μ5) (fun _ _ => False) else k' none μ3))
        (fun acc μ' => P (.tmp acc) μ') items [] μ1) X := by simp only [wpE]
theorem cs_nil {Q : Bool → PM → Prop} : wpCs C [] ρ μ Q = Q true μ := by simp only [wpCs]
theorem cs_one {Q : Bool → PM → Prop} : wpCs C [c] ρ μ Q = wpE C c ρ μ (fun v μ1 => ∃ b, v = .bl b ∧ Q b μ1) (fun _ _ => False) := by simp only [wpCs]
theorem a_nm {i : Nat} {Q : PE_ → PM → Prop} : asgT (.nm i) v ρ μ Q = Q (ρ.set i (some v)) μ := propext Iff.rfl
theorem a_tup {ts : List Tg} {vs : List PV} {Q : PE_ → PM → Prop} : asgT (.tp ts) (.tup vs) ρ μ Q = asgTs ts vs ρ μ Q := by
  have e : asgT (.tp ts) (.tup vs) ρ μ Q = ∃ ws, seqOf μ (.tup vs) = some ws ∧ asgTs ts ws ρ μ Q := rfl
  rw [e]
  simp [seqOf]
theorem as_nil {Q : PE_ → PM → Prop} : asgTs [] [] ρ μ Q = Q ρ μ := propext Iff.rfl
theorem as_cons {t : Tg} {ts : List Tg} {vs : List PV} {Q : PE_ → PM → Prop} : asgTs (t :: ts) (v :: vs) ρ μ Q = asgT t v ρ μ fun ρ' μ' => asgTs ts vs ρ' μ' Q := propext Iff.rfl
/-- a walk by an invariant over what has gone -/
theorem walk_inv {st : PM → Prop} {step : PV → PE_ → PM → (PE_ → PM → Prop) → Prop} {nx : PE_ → PM → Prop} {items : List PV} (I : List PV → PE_ → PM → Prop) (h0 : I [] ρ μ) (hst : ∀ pre ρ μ, I pre ρ μ → st μ)
    (hs : ∀ pre x post ρ μ (Q : PE_ → PM → Prop), items = pre ++ x :: post → I pre ρ μ → (∀ ρ' μ', I (pre ++ [x]) ρ' μ' → Q ρ' μ') → step x ρ μ Q) (hn : ∀ ρ μ, I items ρ μ → nx ρ μ) : walkW st step nx items ρ μ := by
  have key : ∀ (post pre : List PV) (ρ : PE_) (μ : PM), items = pre ++ post → I pre ρ μ → walkW st step nx post ρ μ := by
    intro post
    induction post with
    | nil =>
      intro pre ρ μ e i
      rw [List.append_nil] at e
      subst e
      exact ⟨hst _ _ _ i, hn _ _ i⟩
    | cons x post ih =>
      intro pre ρ μ e i
      refine ⟨hst _ _ _ i, hs pre x post ρ μ _ e i fun ρ' μ' i' => ?_⟩
      exact ih (pre ++ [x]) ρ' μ' (by rw [e]; simp) i'
  exact key items [] ρ μ rfl h0
/-- a comprehension that maps -/
theorem comp_map {st : PM → Prop} {step : PV → PM → (Option PV → PM → Prop) → Prop} {fin : List PV → PM → Prop} (f : PV → PV) (hst : st μ) : ∀ (items acc : List PV), (∀ x ∈ items, ∀ Q : Option PV → PM → Prop, Q (some (f x)) μ → step x μ Q) → fin (acc ++ items.map f) μ → compW st step fin items acc μ
  | [], acc, _, h => ⟨hst, by simpa using h⟩
  | x :: xs, acc, hs, h => ⟨hst, hs x List.mem_cons_self _ (comp_map f hst xs (acc ++ [f x]) (fun y hy => hs y (List.mem_cons_of_mem _ hy)) (by simpa using h))⟩
/-- .. that picks too -/
theorem comp_pick {st : PM → Prop} {step : PV → PM → (Option PV → PM → Prop) → Prop} {fin : List PV → PM → Prop} (f : PV → Option PV) (hst : st μ) : ∀ (items acc : List PV), (∀ x ∈ items, ∀ Q : Option PV → PM → Prop, Q (f x) μ → step x μ Q) → fin (acc ++ items.filterMap f) μ → compW st step fin items acc μ
  | [], acc, _, h => ⟨hst, by simpa using h⟩
  | x :: xs, acc, hs, h => by
    refine ⟨hst, hs x List.mem_cons_self _ ?_⟩
    cases e : f x with
    | none => exact comp_pick f hst xs acc (fun y hy => hs y (List.mem_cons_of_mem _ hy)) (by simpa [e] using h)
    | some v => exact comp_pick f hst xs (acc ++ [v]) (fun y hy => hs y (List.mem_cons_of_mem _ hy)) (by simpa [e] using h)
end
end G

namespace G
open PySem PySem.Spec PyProof.Rows L2
section
variable {C : Calls} {μ : PM} {P : Post} {X : XPost} {ρ : PE_} {D : PEnds} {e a b c d : E} {es : List E} {v w x y : PV} {ts : List Str}
theorem is_int_int {i : Int} : isiW (.int i) [.bt "int"] ts μ P = P (.bl true) μ := by unfold isiW; simp [tyOf, ownIn, isOne]
theorem is_int_bool {i : Int} : isiW (.int i) [.bt "bool"] ts μ P = P (.bl false) μ := by unfold isiW; simp [tyOf, ownIn, isOne]
theorem is_int_tuple {i : Int} : isiW (.int i) [.bt "tuple"] ts μ P = P (.bl false) μ := by unfold isiW; simp [tyOf, ownIn, isOne]
theorem is_int_list {i : Int} : isiW (.int i) [.bt "list"] ts μ P = P (.bl false) μ := by unfold isiW; simp [tyOf, ownIn, isOne]
theorem is_int_str {i : Int} : isiW (.int i) [.bt "str"] ts μ P = P (.bl false) μ := by unfold isiW; simp [tyOf, ownIn, isOne]
theorem is_int_tuple_list {i : Int} : isiW (.int i) [.bt "tuple", .bt "list"] ts μ P = P (.bl false) μ := by unfold isiW; simp [tyOf, ownIn, isOne]
theorem is_int_dict {i : Int} : isiW (.int i) [.bt "dict"] ts μ P = P (.bl false) μ := by unfold isiW; simp [tyOf, ownIn, isOne]
theorem is_int_int_str {i : Int} : isiW (.int i) [.bt "int", .bt "str"] ts μ P = P (.bl true) μ := by unfold isiW; simp [tyOf, ownIn, isOne]
theorem is_int_list_tuple {i : Int} : isiW (.int i) [.bt "list", .bt "tuple"] ts μ P = P (.bl false) μ := by unfold isiW; simp [tyOf, ownIn, isOne]
theorem is_int_own {i : Int} {q : Str} : isiW (.int i) [.own q] ts μ P = P (.bl false) μ := by unfold isiW; simp [tyOf, ownIn, isOne]
theorem is_bool_int {i : Bool} : isiW (.bl i) [.bt "int"] ts μ P = P (.bl true) μ := by unfold isiW; simp [tyOf, ownIn, isOne]
theorem is_bool_bool {i : Bool} : isiW (.bl i) [.bt "bool"] ts μ P = P (.bl true) μ := by unfold isiW; simp [tyOf, ownIn, isOne]
theorem is_bool_tuple {i : Bool} : isiW (.bl i) [.bt "tuple"] ts μ P = P (.bl false) μ := by unfold isiW; simp [tyOf, ownIn, isOne]
theorem is_bool_list {i : Bool} : isiW (.bl i) [.bt "list"] ts μ P = P (.bl false) μ := by unfold isiW; simp [tyOf, ownIn, isOne]
theorem is_bool_str {i : Bool} : isiW (.bl i) [.bt "str"] ts μ P = P (.bl false) μ := by unfold isiW; simp [tyOf, ownIn, isOne]
theorem is_bool_tuple_list {i : Bool} : isiW (.bl i) [.bt "tuple", .bt "list"] ts μ P = P (.bl false) μ := by unfold isiW; simp [tyOf, ownIn, isOne]
theorem is_bool_dict {i : Bool} : isiW (.bl i) [.bt "dict"] ts μ P = P (.bl false) μ := by unfold isiW; simp [tyOf, ownIn, isOne]
theorem is_bool_int_str {i : Bool} : isiW (.bl i) [.bt "int", .bt "str"] ts μ P = P (.bl true) μ := by unfold isiW; simp [tyOf, ownIn, isOne]
theorem is_bool_list_tuple {i : Bool} : isiW (.bl i) [.bt "list", .bt "tuple"] ts μ P = P (.bl false) μ := by unfold isiW; simp [tyOf, ownIn, isOne]
theorem is_bool_own {i : Bool} {q : Str} : isiW (.bl i) [.own q] ts μ P = P (.bl false) μ := by unfold isiW; simp [tyOf, ownIn, isOne]
theorem is_str_int {i : Str} : isiW (.str i) [.bt "int"] ts μ P = P (.bl false) μ := by unfold isiW; simp [tyOf, ownIn, isOne]
theorem is_str_bool {i : Str} : isiW (.str i) [.bt "bool"] ts μ P = P (.bl false) μ := by unfold isiW; simp [tyOf, ownIn, isOne]
theorem is_str_tuple {i : Str} : isiW (.str i) [.bt "tuple"] ts μ P = P (.bl false) μ := by unfold isiW; simp [tyOf, ownIn, isOne]
theorem is_str_list {i : Str} : isiW (.str i) [.bt "list"] ts μ P = P (.bl false) μ := by unfold isiW; simp [tyOf, ownIn, isOne]
theorem is_str_str {i : Str} : isiW (.str i) [.bt "str"] ts μ P = P (.bl true) μ := by unfold isiW; simp [tyOf, ownIn, isOne]
theorem is_str_tuple_list {i : Str} : isiW (.str i) [.bt "tuple", .bt "list"] ts μ P = P (.bl false) μ := by unfold isiW; simp [tyOf, ownIn, isOne]
theorem is_str_dict {i : Str} : isiW (.str i) [.bt "dict"] ts μ P = P (.bl false) μ := by unfold isiW; simp [tyOf, ownIn, isOne]
theorem is_str_int_str {i : Str} : isiW (.str i) [.bt "int", .bt "str"] ts μ P = P (.bl true) μ := by unfold isiW; simp [tyOf, ownIn, isOne]
theorem is_str_list_tuple {i : Str} : isiW (.str i) [.bt "list", .bt "tuple"] ts μ P = P (.bl false) μ := by unfold isiW; simp [tyOf, ownIn, isOne]
theorem is_str_own {i : Str} {q : Str} : isiW (.str i) [.own q] ts μ P = P (.bl false) μ := by unfold isiW; simp [tyOf, ownIn, isOne]
theorem is_tuple_int {i : List PV} : isiW (.tup i) [.bt "int"] ts μ P = P (.bl false) μ := by unfold isiW; simp [tyOf, ownIn, isOne]
theorem is_tuple_bool {i : List PV} : isiW (.tup i) [.bt "bool"] ts μ P = P (.bl false) μ := by unfold isiW; simp [tyOf, ownIn, isOne]
theorem is_tuple_tuple {i : List PV} : isiW (.tup i) [.bt "tuple"] ts μ P = P (.bl true) μ := by unfold isiW; simp [tyOf, ownIn, isOne]
theorem is_tuple_list {i : List PV} : isiW (.tup i) [.bt "list"] ts μ P = P (.bl false) μ := by unfold isiW; simp [tyOf, ownIn, isOne]
theorem is_tuple_str {i : List PV} : isiW (.tup i) [.bt "str"] ts μ P = P (.bl false) μ := by unfold isiW; simp [tyOf, ownIn, isOne]
theorem is_tuple_tuple_list {i : List PV} : isiW (.tup i) [.bt "tuple", .bt "list"] ts μ P = P (.bl true) μ := by unfold isiW; simp [tyOf, ownIn, isOne]
theorem is_tuple_dict {i : List PV} : isiW (.tup i) [.bt "dict"] ts μ P = P (.bl false) μ := by unfold isiW; simp [tyOf, ownIn, isOne]
theorem is_tuple_int_str {i : List PV} : isiW (.tup i) [.bt "int", .bt "str"] ts μ P = P (.bl false) μ := by unfold isiW; simp [tyOf, ownIn, isOne]
theorem is_tuple_list_tuple {i : List PV} : isiW (.tup i) [.bt "list", .bt "tuple"] ts μ P = P (.bl true) μ := by unfold isiW; simp [tyOf, ownIn, isOne]
theorem is_tuple_own {i : List PV} {q : Str} : isiW (.tup i) [.own q] ts μ P = P (.bl false) μ := by unfold isiW; simp [tyOf, ownIn, isOne]
theorem is_NoneType_int  : isiW (.non) [.bt "int"] ts μ P = P (.bl false) μ := by unfold isiW; simp [tyOf, ownIn, isOne]
theorem is_NoneType_bool  : isiW (.non) [.bt "bool"] ts μ P = P (.bl false) μ := by unfold isiW; simp [tyOf, ownIn, isOne]
theorem is_NoneType_tuple  : isiW (.non) [.bt "tuple"] ts μ P = P (.bl false) μ := by unfold isiW; simp [tyOf, ownIn, isOne]
theorem is_NoneType_list  : isiW (.non) [.bt "list"] ts μ P = P (.bl false) μ := by unfold isiW; simp [tyOf, ownIn, isOne]
theorem is_NoneType_str  : isiW (.non) [.bt "str"] ts μ P = P (.bl false) μ := by unfold isiW; simp [tyOf, ownIn, isOne]
theorem is_NoneType_tuple_list  : isiW (.non) [.bt "tuple", .bt "list"] ts μ P = P (.bl false) μ := by unfold isiW; simp [tyOf, ownIn, isOne]
theorem is_NoneType_dict  : isiW (.non) [.bt "dict"] ts μ P = P (.bl false) μ := by unfold isiW; simp [tyOf, ownIn, isOne]
theorem is_NoneType_int_str  : isiW (.non) [.bt "int", .bt "str"] ts μ P = P (.bl false) μ := by unfold isiW; simp [tyOf, ownIn, isOne]
theorem is_NoneType_list_tuple  : isiW (.non) [.bt "list", .bt "tuple"] ts μ P = P (.bl false) μ := by unfold isiW; simp [tyOf, ownIn, isOne]
theorem is_NoneType_own  {q : Str} : isiW (.non) [.own q] ts μ P = P (.bl false) μ := by unfold isiW; simp [tyOf, ownIn, isOne]
theorem isl_int {p : Addr} {xs : List PV} (h : μ p = some (.lst xs)) : isiW (.ref p) [.bt "int"] ts μ P = P (.bl false) μ := by unfold isiW; simp [tyOf, h, ownIn, isOne]
theorem isl_bool {p : Addr} {xs : List PV} (h : μ p = some (.lst xs)) : isiW (.ref p) [.bt "bool"] ts μ P = P (.bl false) μ := by unfold isiW; simp [tyOf, h, ownIn, isOne]
theorem isl_tuple {p : Addr} {xs : List PV} (h : μ p = some (.lst xs)) : isiW (.ref p) [.bt "tuple"] ts μ P = P (.bl false) μ := by unfold isiW; simp [tyOf, h, ownIn, isOne]
theorem isl_list {p : Addr} {xs : List PV} (h : μ p = some (.lst xs)) : isiW (.ref p) [.bt "list"] ts μ P = P (.bl true) μ := by unfold isiW; simp [tyOf, h, ownIn, isOne]
theorem isl_str {p : Addr} {xs : List PV} (h : μ p = some (.lst xs)) : isiW (.ref p) [.bt "str"] ts μ P = P (.bl false) μ := by unfold isiW; simp [tyOf, h, ownIn, isOne]
theorem isl_tuple_list {p : Addr} {xs : List PV} (h : μ p = some (.lst xs)) : isiW (.ref p) [.bt "tuple", .bt "list"] ts μ P = P (.bl true) μ := by unfold isiW; simp [tyOf, h, ownIn, isOne]
theorem isl_dict {p : Addr} {xs : List PV} (h : μ p = some (.lst xs)) : isiW (.ref p) [.bt "dict"] ts μ P = P (.bl false) μ := by unfold isiW; simp [tyOf, h, ownIn, isOne]
theorem isl_int_str {p : Addr} {xs : List PV} (h : μ p = some (.lst xs)) : isiW (.ref p) [.bt "int", .bt "str"] ts μ P = P (.bl false) μ := by unfold isiW; simp [tyOf, h, ownIn, isOne]
theorem isl_list_tuple {p : Addr} {xs : List PV} (h : μ p = some (.lst xs)) : isiW (.ref p) [.bt "list", .bt "tuple"] ts μ P = P (.bl true) μ := by unfold isiW; simp [tyOf, h, ownIn, isOne]

theorem iso_own {p : Addr} {q : Str} {fs : List (Str × PV)} (h : μ p = some (.ins q fs)) (hq : q ∈ ts) : isiW (.ref p) [.own q] ts μ P = P (.bl true) μ := by unfold isiW; simp [tyOf, h, ownIn, isOne, hq]
theorem up_up {o o' : PO} {p : Addr} : up (up μ p o) p o' = up μ p o' := by
  funext z
  by_cases h : z = p
  · subst h; rw [up_same, up_same]
  · rw [up_ne h, up_ne h, up_ne h]
theorem up_id {o : PO} {p : Addr} (h : μ p = some o) : up μ p o = μ := by
  funext z
  by_cases e : z = p
  · subst e; rw [up_same, h]
  · rw [up_ne e]
/-- a new place hides nothing -/
theorem Sub.new {o : PO} {p : Addr} (h : μ p = none) : Sub μ (up μ p o) := fun z q e => by
  by_cases f : z = p
  · subst f; rw [h] at e; cases e
  · rw [up_ne f]; exact e
theorem Sub.trans {μ1 μ2 μ3 : PM} (h : Sub μ1 μ2) (g : Sub μ2 μ3) : Sub μ1 μ3 := fun z q e => g z q (h z q e)
theorem rt_sub {μ' : PM} (s : Sub μ' μ) (h : P v μ') : ∃ μ'', Sub μ'' μ ∧ P v μ'' := ⟨μ', s, h⟩
/-- a value in its place -/
def NT (v : PV) : Prop := ∀ xs, v ≠ .tmp xs
theorem m_nt (h : NT v) : mat v μ P = P v μ := by cases v <;> first | rfl | exact absurd rfl (h _)
theorem m_tmp {xs : List PV} : mat (.tmp xs) μ P = ∀ a, μ a = none → P (.ref a) (up μ a (.lst xs)) := propext Iff.rfl
theorem e_dct : wpE C (.dct [] []) ρ μ P X = ∀ p, μ p = none → P (.ref p) (up μ p (.dk [])) := by simp only [wpE, true_and]
theorem e_lamc {f : Nat} : wpE C (.lamc f e) ρ μ P X = C.lf f (fun μ' P' X' => wpE C.low e ρ μ' P' X') μ P X := by simp only [wpE]
theorem e_act {i : Nat} {p : Addr} {TT : PM → Post → XPost → Prop} (h : ρ[i]? = some (some (.ref p))) (hc : C.ev.th = some (p, TT)) : wpE C (.act i) ρ μ P X = TT μ P X := by
  simp only [wpE]
  refine propext ⟨?_, fun z => ⟨p, TT, h, hc, z⟩⟩
  rintro ⟨p', T', e1, e2, z⟩
  rw [hc] at e2; cases e2; exact z
theorem e_isx {cl : Cl} {p : Addr} {q : Str} (hc : C.ev.ex = some (p, q)) : wpE C (.isx e cl) ρ μ P X = wpE C e ρ μ (fun v μ1 => v = .ref p ∧ P (.bl (exIs q cl)) μ1) X := by
  simp only [wpE, hc]
  congr 1
  funext v μ1
  refine propext ⟨?_, fun z => ⟨p, q, z.1, rfl, z.2⟩⟩
  rintro ⟨p', q', e1, e2, z⟩
  cases e2; exact ⟨e1, z⟩
theorem s_raise0 {q : Str} : wpS C (.raise q none []) D ρ μ = D.rs ⟨q, []⟩ ρ μ := by simp only [wpS, true_and]
theorem s_try' {xs : List Str} {body suite : List S} {q : Str} {i : Nat} : wpS C (.try_ xs body q (some i) suite) D ρ μ = wpSs C body { D with rs := fun x ρ' μ' => x.cls ∈ xs ∧ if exIs x.cls (.own q) = true then x.fs = [] ∧ ∀ a, μ' a = none → wpSs (C.wx (a, x.cls)) suite { nx := fun ρ2 μ2 => D.nx (ρ2.set i none) μ2, rt := D.rt, bk := fun ρ2 μ2 => D.bk (ρ2.set i none) μ2, ct := fun ρ2 μ2 => D.ct (ρ2.set i none) μ2, rs := fun _ _ _ => False } (ρ'.set i (some (.ref a))) μ' else D.rs x ρ' μ' } ρ μ := by
  simp only [wpS]
  refine propext ⟨?_, fun z => ⟨i, rfl, z⟩⟩
  rintro ⟨j, e, z⟩
  cases e; exact z
def fldW (c : Str) (x : PV) (f : Str) (μ : PM) (P : Post) : Prop := ∃ a fs v, x = .ref a ∧ μ a = some (.ins c fs) ∧ fs.lookup f = some v ∧ P v μ
theorem e_fld {q f : Str} {o : E} : wpE C (.fld q o f) ρ μ P X = wpE C o ρ μ (fun x μ1 => fldW q x f μ1 P) X := by simp only [wpE, fldW]
theorem fld_get {q f : Str} {p : Addr} {fs : List (Str × PV)} (h : μ p = some (.ins q fs)) (hv : fs.lookup f = some v) : fldW q (.ref p) f μ P = P v μ := by
  unfold fldW
  refine propext ⟨?_, fun z => ⟨p, fs, v, rfl, h, hv, z⟩⟩
  rintro ⟨a, fs', v', e1, e2, e3, z⟩
  cases e1
  rw [h] at e2; cases e2
  rw [hv] at e3; cases e3
  exact z
theorem e_bm {m : Bm} {o : E} : wpE C (.bm m o es) ρ μ P X = wpE C o ρ μ (fun x μ1 => bmT m x μ1 ∧ wpEs C es ρ μ1 (fun vs μ2 => bmW m x vs μ2 P) X) X := by simp only [wpE]
theorem e_meth {q m : Str} {f : Nat} {o : E} : wpE C (.meth q m f o es) ρ μ P X = wpE C o ρ μ (fun x μ1 => ∃ a fs, x = .ref a ∧ μ1 a = some (.ins q fs) ∧ fs.lookup m = none ∧ wpEs C es ρ μ1 (fun vs μ2 => C.fn f (x :: vs) μ2 P X) X) X := by simp only [wpE]
theorem e_new {q : Str} {f : Nat} : wpE C (.new q f es) ρ μ P X = wpEs C es ρ μ (fun vs μ1 => ∀ a, μ1 a = none → C.mk f (.ref a :: vs) (up μ1 a (.ins q [])) (fun v μ2 => v = .non ∧ P (.ref a) μ2) X) X := by simp only [wpE]
theorem e_slcN {o hi : E} : wpE C (.slc o none (some hi)) ρ μ P X = wpE C o ρ μ (fun x μ1 => wpE C hi ρ μ1 (fun v μ3 => ∃ i, v = .int i ∧ slcW x none (some i) μ3 P) X) X := by simp only [wpE, wpO]
theorem e_slcS {o lo : E} : wpE C (.slc o (some lo) none) ρ μ P X = wpE C o ρ μ (fun x μ1 => wpE C lo ρ μ1 (fun v μ3 => ∃ i, v = .int i ∧ slcW x (some i) none μ3 P) X) X := by simp only [wpE, wpO]
theorem sl_tup {xs : List PV} {lo hi : Option Int} : slcW (.tup xs) lo hi μ P = P (.tup (cutP xs lo hi)) μ := propext Iff.rfl
theorem sl_str {z : Str} {lo hi : Option Int} : slcW (.str z) lo hi μ P = P (.str (cutS z lo hi)) μ := propext Iff.rfl
theorem e_lset : wpE C (.lset e) ρ μ P X = wpE C e ρ μ (fun x μ1 => ∃ xs ss, x = .tup xs ∧ allOf strOf xs = some ss ∧ ss.length ≤ 1000 ∧ P (.int (firsts ss).length) μ1) X := by simp only [wpE]
theorem e_oeq {q : Str} {f : Nat} : wpE C (.oeq false q f a b) ρ μ P X = wpE C a ρ μ (fun x μ1 => wpE C b ρ μ1 (fun y μ2 => ∃ p r fs gs, x = .ref p ∧ y = .ref r ∧ μ2 p = some (.ins q fs) ∧ μ2 r = some (.ins q gs) ∧ C.fn f [x, y] μ2 P (fun _ _ => False)) X) X := by
  simp only [wpE, true_and]
theorem s_att' {q f : Str} {o : E} : wpS C (.att q o f e) D ρ μ = wpE C e ρ μ (fun v μ1 => mat v μ1 fun v' μ2 => wpE C o ρ μ2 (fun x μ3 => ∃ a fs, x = .ref a ∧ μ3 a = some (.ins q fs) ∧ fs.length < 1000 ∧
      D.nx ρ (up μ3 a (.ins q (putP f v' fs)))) (fun x μ' => D.rs x ρ μ')) (fun x μ' => D.rs x ρ μ') := by simp only [wpS]
theorem s_sub' {o i : E} : wpS C (.sub o i e) D ρ μ = wpE C e ρ μ (fun v μ1 => mat v μ1 fun v' μ2 => wpE C o ρ μ2 (fun x μ3 => wpE C i ρ μ3 (fun y μ4 => ∃ a j xs k, x = .ref a ∧ y = .int j ∧ μ4 a = some (.lst xs) ∧ ixN xs.length j = some k ∧
      D.nx ρ (up μ4 a (.lst (xs.set k v')))) (fun x μ' => D.rs x ρ μ')) (fun x μ' => D.rs x ρ μ')) (fun x μ' => D.rs x ρ μ') := by simp only [wpS]
theorem b_addT {xs ys : List PV} : binW .add (.tup xs) (.tup ys) μ P = (xs.length + ys.length ≤ sizeLine ∧ P (.tup (xs ++ ys)) μ) := propext Iff.rfl
theorem b_addS {p q : Str} : binW .add (.str p) (.str q) μ P = (p.length + q.length ≤ sizeLine ∧ P (.str (p ++ q)) μ) := propext Iff.rfl
theorem b_pow {i j : Int} : binW .pow (.int i) (.int j) μ P = (CPow i j ∧ P (.int (i ^ j.toNat)) μ) := propext Iff.rfl
theorem c_isb {p q : Bool} : cmpW .is (.bl p) (.bl q) μ P = P (.bl (p == q)) μ := propext Iff.rfl
theorem c_isnb {p q : Bool} : cmpW .isn (.bl p) (.bl q) μ P = P (.bl (!(p == q))) μ := propext Iff.rfl
theorem c_is : cmpW .is v .non μ P = P (.bl (isNonP v)) μ := by cases v <;> rfl
theorem c_isn : cmpW .isn v .non μ P = P (.bl (!isNonP v)) μ := by cases v <;> rfl
theorem nn_int {i : Int} : isNonP (.int i) = false := by simp only [isNonP]
theorem nn_bl {i : Bool} : isNonP (.bl i) = false := by simp only [isNonP]
theorem nn_str {i : Str} : isNonP (.str i) = false := by simp only [isNonP]
theorem nn_tup {i : List PV} : isNonP (.tup i) = false := by simp only [isNonP]
theorem nn_ref {i : Addr} : isNonP (.ref i) = false := by simp only [isNonP]
theorem nn_non : isNonP .non = true := by simp only [isNonP]
theorem c_eqb {p q : Bool} : cmpW .eq (.bl p) (.bl q) μ P = P (.bl (p == q)) μ := propext Iff.rfl
theorem c_neb {p q : Bool} : cmpW .ne (.bl p) (.bl q) μ P = P (.bl (!(p == q))) μ := propext Iff.rfl
theorem c_eqs {p q : Str} : cmpW .eq (.str p) (.str q) μ P = P (.bl (decide (p = q))) μ := propext Iff.rfl
theorem c_nes {p q : Str} : cmpW .ne (.str p) (.str q) μ P = P (.bl (!decide (p = q))) μ := propext Iff.rfl
theorem c_inss {p q : Str} : cmpW .isin (.str p) (.str q) μ P = ∃ k, sgn1 p = some k ∧ P (.bl (decide (k ∈ q.cps.toList))) μ := propext Iff.rfl
theorem f_int {i : Int} : bfW .int [.int i] μ P = P (.int i) μ := propext Iff.rfl
theorem f_lenT {xs : List PV} : bfW .len [.tup xs] μ P = P (.int xs.length) μ := by
  have e : bfW .len [.tup xs] μ P = ((∃ ys, seqOf μ (.tup xs) = some ys ∧ P (.int ys.length) μ) ∨ ∃ a kvs, PV.tup xs = .ref a ∧ μ a = some (.dk kvs) ∧ P (.int kvs.length) μ) := rfl
  rw [e]
  simp [seqOf]
theorem f_lenS {z : Str} : bfW .len [.str z] μ P = P (.int z.length) μ := propext Iff.rfl
theorem f_lenL {p : Addr} {xs : List PV} (h : μ p = some (.lst xs)) : bfW .len [.ref p] μ P = P (.int xs.length) μ := by
  have e : bfW .len [.ref p] μ P = ((∃ ys, seqOf μ (.ref p) = some ys ∧ P (.int ys.length) μ) ∨ ∃ a kvs, PV.ref p = .ref a ∧ μ a = some (.dk kvs) ∧ P (.int kvs.length) μ) := rfl
  rw [e]
  simp [seqOf, h]
theorem f_tupT {xs : List PV} : bfW .tuple [.tmp xs] μ P = P (.tup xs) μ := by
  have e : bfW .tuple [.tmp xs] μ P = ∃ ys, seqOf μ (.tmp xs) = some ys ∧ P (.tup ys) μ := rfl
  rw [e]; simp [seqOf]
theorem f_tupP {xs : List PV} : bfW .tuple [.tup xs] μ P = P (.tup xs) μ := by
  have e : bfW .tuple [.tup xs] μ P = ∃ ys, seqOf μ (.tup xs) = some ys ∧ P (.tup ys) μ := rfl
  rw [e]; simp [seqOf]
theorem f_tupL {p : Addr} {xs : List PV} (h : μ p = some (.lst xs)) : bfW .tuple [.ref p] μ P = P (.tup xs) μ := by
  have e : bfW .tuple [.ref p] μ P = ∃ ys, seqOf μ (.ref p) = some ys ∧ P (.tup ys) μ := rfl
  rw [e]; simp [seqOf, h]
theorem f_lstT {xs : List PV} : bfW .list [.tup xs] μ P = P (.tmp xs) μ := by
  have e : bfW .list [.tup xs] μ P = ∃ ys, seqOf μ (.tup xs) = some ys ∧ P (.tmp ys) μ := rfl
  rw [e]; simp [seqOf]
theorem f_lstL {p : Addr} {xs : List PV} (h : μ p = some (.lst xs)) : bfW .list [.ref p] μ P = P (.tmp xs) μ := by
  have e : bfW .list [.ref p] μ P = ∃ ys, seqOf μ (.ref p) = some ys ∧ P (.tmp ys) μ := rfl
  rw [e]; simp [seqOf, h]
theorem f_min4 {i j k l : Int} : bfW .min [.int i, .int j, .int k, .int l] μ P = (∀ m, m ∈ [i, j, k, l] → (∀ y ∈ [i, j, k, l], m ≤ y) → P (.int m) μ) := propext Iff.rfl
theorem f_min2 {i j : Int} : bfW .min [.int i, .int j] μ P = P (.int (if j < i then j else i)) μ := propext Iff.rfl
theorem f_max2 {i j : Int} : bfW .max [.int i, .int j] μ P = P (.int (if j > i then j else i)) μ := propext Iff.rfl
theorem allOf_map {α β : Type} {f : PV → Option α} {g : β → PV} {h : β → α} (e : ∀ z, f (g z) = some (h z)) : ∀ l : List β, allOf f (l.map g) = some (l.map h)
  | [] => rfl
  | z :: l => by
    show (match f (g z), allOf f (l.map g) with
      | some a, some r => some (a :: r)
      | _, _ => none) = _
    rw [e z, allOf_map e l]
    rfl
theorem f_sumT {β : Type} {g : β → Int} {l : List β} : bfW .sum [.tmp (l.map fun z => .int (g z))] μ P = P (.int (l.map g).sum) μ := by
  have e : ∀ v, bfW .sum [v] μ P = ∃ xs ns, lstOf μ v = some xs ∧ allOf intOf xs = some ns ∧ P (.int ns.sum) μ := fun _ => rfl
  rw [e]
  have q : allOf intOf (l.map fun z => PV.int (g z)) = some (l.map g) := allOf_map (f := intOf) (g := fun z => PV.int (g z)) (h := g) (fun _ => rfl) l
  refine propext ⟨?_, fun h => ⟨_, _, rfl, q, h⟩⟩
  rintro ⟨xs, ns, e1, e2, h⟩
  cases e1
  rw [q] at e2; cases e2
  exact h
theorem f_allT {β : Type} {g : β → Bool} {l : List β} : bfW .all [.tmp (l.map fun z => .bl (g z))] μ P = P (.bl (l.all g)) μ := by
  have e : ∀ v, bfW .all [v] μ P = ∃ xs bs, lstOf μ v = some xs ∧ allOf blOf xs = some bs ∧ P (.bl (bs.all id)) μ := fun _ => rfl
  rw [e]
  have q : allOf blOf (l.map fun z => PV.bl (g z)) = some (l.map g) := allOf_map (f := blOf) (g := fun z => PV.bl (g z)) (h := g) (fun _ => rfl) l
  refine propext ⟨?_, fun h => ⟨_, _, rfl, q, by rw [List.all_map]; exact h⟩⟩
  rintro ⟨xs, ns, e1, e2, h⟩
  cases e1
  rw [q] at e2; cases e2
  rw [List.all_map] at h; exact h
theorem f_anyT {β : Type} {g : β → Bool} {l : List β} : bfW .any [.tmp (l.map fun z => .bl (g z))] μ P = P (.bl (l.any g)) μ := by
  have e : ∀ v, bfW .any [v] μ P = ∃ xs bs, lstOf μ v = some xs ∧ allOf blOf xs = some bs ∧ P (.bl (bs.any id)) μ := fun _ => rfl
  rw [e]
  have q : allOf blOf (l.map fun z => PV.bl (g z)) = some (l.map g) := allOf_map (f := blOf) (g := fun z => PV.bl (g z)) (h := g) (fun _ => rfl) l
  refine propext ⟨?_, fun h => ⟨_, _, rfl, q, by rw [List.any_map]; exact h⟩⟩
  rintro ⟨xs, ns, e1, e2, h⟩
  cases e1
  rw [q] at e2; cases e2
  rw [List.any_map] at h; exact h
/-- a comprehension over a mapped list: a value each -/
theorem comp_m {β : Type} {st : PM → Prop} {step : PV → PM → (Option PV → PM → Prop) → Prop} {fin : List PV → PM → Prop} {g : β → PV} {items : List PV} (l : List β) (f : β → PV) (hi : items = l.map g) (hst : st μ)
    (hs : ∀ x ∈ l, ∀ Q : Option PV → PM → Prop, Q (some (f x)) μ → step (g x) μ Q) (h : fin (l.map f) μ) : compW st step fin items [] μ := by
  subst hi
  have key : ∀ (l : List β) (acc : List PV), (∀ x ∈ l, ∀ Q : Option PV → PM → Prop, Q (some (f x)) μ → step (g x) μ Q) → fin (acc ++ l.map f) μ → compW st step fin (l.map g) acc μ := by
    intro l
    induction l with
    | nil => intro acc _ h; exact ⟨hst, by simpa using h⟩
    | cons x xs ih =>
      intro acc hs h
      exact ⟨hst, hs x List.mem_cons_self _ (ih (acc ++ [f x]) (fun y hy => hs y (List.mem_cons_of_mem _ hy)) (by simpa using h))⟩
  exact key l [] hs (by simpa using h)
/-- .. that picks -/
theorem comp_p {β : Type} {st : PM → Prop} {step : PV → PM → (Option PV → PM → Prop) → Prop} {fin : List PV → PM → Prop} {g : β → PV} {items : List PV} (l : List β) (p : β → Bool) (f : β → PV) (hi : items = l.map g) (hst : st μ)
    (hs : ∀ x ∈ l, ∀ Q : Option PV → PM → Prop, Q (if p x = true then some (f x) else none) μ → step (g x) μ Q) (h : fin ((l.filter p).map f) μ) : compW st step fin items [] μ := by
  subst hi
  have key : ∀ (l : List β) (acc : List PV), (∀ x ∈ l, ∀ Q : Option PV → PM → Prop, Q (if p x = true then some (f x) else none) μ → step (g x) μ Q) → fin (acc ++ (l.filter p).map f) μ → compW st step fin (l.map g) acc μ := by
    intro l
    induction l with
    | nil => intro acc _ h; exact ⟨hst, by simpa using h⟩
    | cons x xs ih =>
      intro acc hs h
      refine ⟨hst, hs x List.mem_cons_self _ ?_⟩
      by_cases q : p x = true
      · rw [if_pos q]
        refine ih (acc ++ [f x]) (fun y hy => hs y (List.mem_cons_of_mem _ hy)) ?_
        simpa [List.filter_cons, q] using h
      · rw [if_neg q]
        refine ih acc (fun y hy => hs y (List.mem_cons_of_mem _ hy)) ?_
        simpa [List.filter_cons, q] using h
  exact key l [] hs (by simpa using h)
/-- a comprehension whose steps may write: by an invariant -/
theorem comp_inv {st : PM → Prop} {step : PV → PM → (Option PV → PM → Prop) → Prop} {fin : List PV → PM → Prop} {items : List PV} (I : List PV → List PV → PM → Prop) (h0 : I [] [] μ) (hst : ∀ pre acc μ, I pre acc μ → st μ)
    (hs : ∀ pre x post acc μ (Q : Option PV → PM → Prop), items = pre ++ x :: post → I pre acc μ → (∀ y μ', I (pre ++ [x]) (acc ++ [y]) μ' → Q (some y) μ') → step x μ Q) (hn : ∀ acc μ, I items acc μ → fin acc μ) : compW st step fin items [] μ := by
  have key : ∀ (post pre acc : List PV) (μ : PM), items = pre ++ post → I pre acc μ → compW st step fin post acc μ := by
    intro post
    induction post with
    | nil =>
      intro pre acc μ e i
      rw [List.append_nil] at e
      subst e
      exact ⟨hst _ _ _ i, hn _ _ i⟩
    | cons x post ih =>
      intro pre acc μ e i
      refine ⟨hst _ _ _ i, hs pre x post acc μ _ e i fun y μ' i' => ?_⟩
      exact ih (pre ++ [x]) (acc ++ [y]) μ' (by rw [e]; simp) i'
  exact key items [] [] μ rfl h0
/-- a walk over a mapped list: pure state μ, slots by a fold -/
theorem walk_m {β : Type} {st : PM → Prop} {step : PV → PE_ → PM → (PE_ → PM → Prop) → Prop} {nx : PE_ → PM → Prop} {g : β → PV} {items : List PV} (l : List β) (hi : items = l.map g) (I : List β → PE_ → PM → Prop) (h0 : I [] ρ μ) (hst : ∀ pre ρ μ, I pre ρ μ → st μ)
    (hs : ∀ pre x post ρ μ (Q : PE_ → PM → Prop), l = pre ++ x :: post → I pre ρ μ → (∀ ρ' μ', I (pre ++ [x]) ρ' μ' → Q ρ' μ') → step (g x) ρ μ Q) (hn : ∀ ρ μ, I l ρ μ → nx ρ μ) : walkW st step nx items ρ μ := by
  subst hi
  have key : ∀ (post pre : List β) (ρ : PE_) (μ : PM), l = pre ++ post → I pre ρ μ → walkW st step nx (post.map g) ρ μ := by
    intro post
    induction post with
    | nil =>
      intro pre ρ μ e i
      rw [List.append_nil] at e
      subst e
      exact ⟨hst _ _ _ i, hn _ _ i⟩
    | cons x post ih =>
      intro pre ρ μ e i
      refine ⟨hst _ _ _ i, hs pre x post ρ μ _ e i fun ρ' μ' i' => ?_⟩
      exact ih (pre ++ [x]) ρ' μ' (by rw [e]; simp) i'
  exact key l [] ρ μ rfl h0
theorem nc {n : Nat} : (((no_index (OfNat.ofNat n)) : Nat) : Int) = (OfNat.ofNat n : Int) := rfl
theorem es_len : ∀ (es : List E) (ρ : PE_) (μ : PM) (Q : List PV → PM → Prop), wpEs C es ρ μ Q X = wpEs C es ρ μ (fun vs μ' => vs.length = es.length ∧ Q vs μ') X
  | [], ρ, μ, Q => by simp [es_nil]
  | e :: es, ρ, μ, Q => by
    rw [es_cons, es_cons]
    congr 1
    funext v μ1
    congr 1
    funext v' μ2
    rw [es_len es ρ μ2 (fun vs μ3 => Q (v' :: vs) μ3), es_len es ρ μ2 (fun vs μ3 => (v' :: vs).length = (e :: es).length ∧ Q (v' :: vs) μ3)]
    congr 1
    funext vs μ3
    refine propext ⟨fun h => ⟨h.1, by simp [h.1], h.2⟩, fun h => ⟨h.1, h.2.2⟩⟩
theorem es_cap (h : es.length ≤ 1000) {Q : List PV → PM → Prop} : wpEs C es ρ μ (fun vs μ' => vs.length ≤ 1000 ∧ Q vs μ') X = wpEs C es ρ μ Q X := by
  rw [es_len es ρ μ (fun vs μ' => vs.length ≤ 1000 ∧ Q vs μ'), es_len es ρ μ Q]
  congr 1
  funext vs μ3
  refine propext ⟨fun h => ⟨h.1, h.2.2⟩, fun g => ⟨g.1, by omega, g.2⟩⟩
theorem e_tup' (h : es.length ≤ 1000) : wpE C (.tup es) ρ μ P X = wpEs C es ρ μ (fun vs μ' => P (.tup vs) μ') X := by
  rw [e_tup]; exact es_cap h
theorem e_lst' (h : es.length ≤ 1000) : wpE C (.lst es) ρ μ P X = wpEs C es ρ μ (fun vs μ' => P (.tmp vs) μ') X := by
  rw [e_lst]; exact es_cap h
/-- a fraction in lowest terms -/
def rp (q : Rat) : PV := .tup [.int q.num, .int (q.den : Int)]
theorem m_rp {q : Rat} : mat (rp q) μ P = P (rp q) μ := propext Iff.rfl
theorem ex_non {R : Prop} : (PV.non = PV.non ∧ R) = R := by simp
theorem ap_lst {p : Addr} {xs : List PV} (h : μ p = some (.lst xs)) (hl : xs.length < 10000000) (q : P .non (up μ p (.lst (xs ++ [v])))) : bmW .append (.ref p) [v] μ P := ⟨xs, h, hl, q⟩
theorem bt_lst {p : Addr} {xs : List PV} {m : Bm} (h : μ p = some (.lst xs)) (hm : bmTy m = "list") : bmT m (.ref p) μ := by
  unfold bmT
  rw [hm]
  exact ⟨xs, by simp [lstOf, h]⟩
/-- an object is made: its initialiser's body runs -/
theorem mk_run {FT : Nat → Option FI} {f : Nat} {fi : FI} {k : Nat} {vs : List PV} {μ : PM} {P : Post} {X : XPost} (h : (CS2 FT (k + 1)).fn f vs μ P X) : (CS2 FT (k + 2)).mk f vs μ P X := h
end
end G

namespace G
open PySem PySem.Spec PyProof.Rows L2
abbrev F.BadElevator___init__ : Nat := 0
abbrev F.BadText___init__ : Nat := 1
abbrev F.Desk___init__ : Nat := 2
abbrev F.Desk_alone_word : Nat := 3
abbrev F.Desk_begin : Nat := 4
abbrev F.Desk_coming : Nat := 5
abbrev F.Desk_done : Nat := 6
abbrev F.Desk_say : Nat := 7
abbrev F.Elevator___eq__ : Nat := 8
abbrev F.Elevator___init__ : Nat := 9
abbrev F.Elevator_told : Nat := 10
abbrev F.House___eq__ : Nat := 11
abbrev F.House___init__ : Nat := 12
abbrev F.House_advice : Nat := 13
abbrev F.House_may_promise : Nat := 14
abbrev F.House_promise : Nat := 15
abbrev F.House_refuse : Nat := 16
abbrev F.House_state : Nat := 17
abbrev F.House_take : Nat := 18
abbrev F.House_twin : Nat := 19
abbrev F.House_undo : Nat := 20
abbrev F.Program___init__ : Nat := 21
abbrev F.Program_add_lots : Nat := 22
abbrev F.Program_add_order : Nat := 23
abbrev F.Program_add_rooms : Nat := 24
abbrev F.Program_dried_goal : Nat := 25
abbrev F.Program_lines_of : Nat := 26
abbrev F.Program_plan_of : Nat := 27
abbrev F.Program_proceeds_goal : Nat := 28
abbrev F.Program_row : Nat := 29
abbrev F.Program_sold_row : Nat := 30
abbrev F.Program_solve : Nat := 31
abbrev F.Tableau___init__ : Nat := 32
abbrev F.Tableau_amounts : Nat := 33
abbrev F.Tableau_climb : Nat := 34
abbrev F.Tableau_duals : Nat := 35
abbrev F.Tableau_enter : Nat := 36
abbrev F.Tableau_entering : Nat := 37
abbrev F.Tableau_leaving : Nat := 38
abbrev F.Tableau_turn : Nat := 39
abbrev F.TooMany___init__ : Nat := 40
abbrev F._law_add : Nat := 41
abbrev F._law_advice_right : Nat := 42
abbrev F._law_all_right : Nat := 43
abbrev F._law_all_stand : Nat := 44
abbrev F._law_answers : Nat := 45
abbrev F._law_any : Nat := 46
abbrev F._law_are_below : Nat := 47
abbrev F._law_are_better : Nat := 48
abbrev F._law_are_contents : Nat := 49
abbrev F._law_are_fracs : Nat := 50
abbrev F._law_are_fractions : Nat := 51
abbrev F._law_are_gaps_right : Nat := 52
abbrev F._law_are_groups_right : Nat := 53
abbrev F._law_are_judged : Nat := 54
abbrev F._law_are_limits : Nat := 55
abbrev F._law_are_lines : Nat := 56
abbrev F._law_are_lines_right : Nat := 57
abbrev F._law_are_made : Nat := 58
abbrev F._law_are_numbers : Nat := 59
abbrev F._law_are_pays : Nat := 60
abbrev F._law_are_short : Nat := 61
abbrev F._law_asked : Nat := 62
abbrev F._law_at : Nat := 63
abbrev F._law_at_most : Nat := 64
abbrev F._law_back_at_place : Nat := 65
abbrev F._law_bad_lines : Nat := 66
abbrev F._law_bad_plan : Nat := 67
abbrev F._law_bare : Nat := 68
abbrev F._law_bent : Nat := 69
abbrev F._law_bent_contents : Nat := 70
abbrev F._law_bent_lines : Nat := 71
abbrev F._law_bent_plan : Nat := 72
abbrev F._law_beside_right : Nat := 73
abbrev F._law_best_right : Nat := 74
abbrev F._law_best_told : Nat := 75
abbrev F._law_better_house : Nat := 76
abbrev F._law_better_lot : Nat := 77
abbrev F._law_better_order : Nat := 78
abbrev F._law_between_them : Nat := 79
abbrev F._law_bounds : Nat := 80
abbrev F._law_built : Nat := 81
abbrev F._law_by : Nat := 82
abbrev F._law_by_hand : Nat := 83
abbrev F._law_by_line : Nat := 84
abbrev F._law_calls : Nat := 85
abbrev F._law_can_sell : Nat := 86
abbrev F._law_carried_lines : Nat := 87
abbrev F._law_carried_plan : Nat := 88
abbrev F._law_case_right : Nat := 89
abbrev F._law_ceiling : Nat := 90
abbrev F._law_chain_right : Nat := 91
abbrev F._law_contents : Nat := 92
abbrev F._law_copy : Nat := 93
abbrev F._law_corners : Nat := 94
abbrev F._law_crowd_right : Nat := 95
abbrev F._law_crowded : Nat := 96
abbrev F._law_days : Nat := 97
abbrev F._law_dearer : Nat := 98
abbrev F._law_deed : Nat := 99
abbrev F._law_deep : Nat := 100
abbrev F._law_det : Nat := 101
abbrev F._law_done : Nat := 102
abbrev F._law_draw : Nat := 103
abbrev F._law_drawn : Nat := 104
abbrev F._law_drawn_contents : Nat := 105
abbrev F._law_drawn_line : Nat := 106
abbrev F._law_drawn_lines : Nat := 107
abbrev F._law_drawn_lot : Nat := 108
abbrev F._law_drawn_open : Nat := 109
abbrev F._law_drawn_order : Nat := 110
abbrev F._law_drawn_pays : Nat := 111
abbrev F._law_drawn_plan : Nat := 112
abbrev F._law_drawn_right : Nat := 113
abbrev F._law_dried : Nat := 114
abbrev F._law_dried_right : Nat := 115
abbrev F._law_dry_case : Nat := 116
abbrev F._law_drying : Nat := 117
abbrev F._law_due : Nat := 118
abbrev F._law_earned : Nat := 119
abbrev F._law_elevator : Nat := 120
abbrev F._law_elevators : Nat := 121
abbrev F._law_ends : Nat := 122
abbrev F._law_ends_right : Nat := 123
abbrev F._law_examples_right : Nat := 124
abbrev F._law_fault : Nat := 125
abbrev F._law_fields : Nat := 126
abbrev F._law_fields_of : Nat := 127
abbrev F._law_fillable : Nat := 128
abbrev F._law_filled : Nat := 129
abbrev F._law_fills_right : Nat := 130
abbrev F._law_first : Nat := 131
abbrev F._law_first_broken : Nat := 132
abbrev F._law_first_leaving : Nat := 133
abbrev F._law_flags : Nat := 134
abbrev F._law_floor : Nat := 135
abbrev F._law_forced : Nat := 136
abbrev F._law_forced_right : Nat := 137
abbrev F._law_frac : Nat := 138
abbrev F._law_fraction : Nat := 139
abbrev F._law_full_right : Nat := 140
abbrev F._law_gain : Nat := 141
abbrev F._law_gcd : Nat := 142
abbrev F._law_great : Nat := 143
abbrev F._law_greatest : Nat := 144
abbrev F._law_groups : Nat := 145
abbrev F._law_groups_right : Nat := 146
abbrev F._law_grown : Nat := 147
abbrev F._law_hand : Nat := 148
abbrev F._law_harder : Nat := 149
abbrev F._law_has_form : Nat := 150
abbrev F._law_head : Nat := 151
abbrev F._law_held : Nat := 152
abbrev F._law_holds : Nat := 153
abbrev F._law_house_right : Nat := 154
abbrev F._law_is : Nat := 155
abbrev F._law_is_alone_right : Nat := 156
abbrev F._law_is_answer : Nat := 157
abbrev F._law_is_best_right : Nat := 158
abbrev F._law_is_change : Nat := 159
abbrev F._law_is_dry_right : Nat := 160
abbrev F._law_is_dryer : Nat := 161
abbrev F._law_is_frac : Nat := 162
abbrev F._law_is_fraction : Nat := 163
abbrev F._law_is_good : Nat := 164
abbrev F._law_is_in : Nat := 165
abbrev F._law_is_int : Nat := 166
abbrev F._law_is_judged : Nat := 167
abbrev F._law_is_kept : Nat := 168
abbrev F._law_is_known : Nat := 169
abbrev F._law_is_known_right : Nat := 170
abbrev F._law_is_lines : Nat := 171
abbrev F._law_is_lot : Nat := 172
abbrev F._law_is_mix : Nat := 173
abbrev F._law_is_name : Nat := 174
abbrev F._law_is_none_paper : Nat := 175
abbrev F._law_is_none_right : Nat := 176
abbrev F._law_is_order : Nat := 177
abbrev F._law_is_paper : Nat := 178
abbrev F._law_is_plain : Nat := 179
abbrev F._law_is_plan : Nat := 180
abbrev F._law_is_possible : Nat := 181
abbrev F._law_is_read : Nat := 182
abbrev F._law_is_refused : Nat := 183
abbrev F._law_is_right : Nat := 184
abbrev F._law_is_right_by_corners : Nat := 185
abbrev F._law_is_right_of : Nat := 186
abbrev F._law_is_row : Nat := 187
abbrev F._law_is_said : Nat := 188
abbrev F._law_is_ticket : Nat := 189
abbrev F._law_is_told : Nat := 190
abbrev F._law_is_tuple : Nat := 191
abbrev F._law_is_whole : Nat := 192
abbrev F._law_is_word : Nat := 193
abbrev F._law_joined_due : Nat := 194
abbrev F._law_joined_right : Nat := 195
abbrev F._law_judged : Nat := 196
abbrev F._law_judged_right : Nat := 197
abbrev F._law_just_right : Nat := 198
abbrev F._law_known_right : Nat := 199
abbrev F._law_less : Nat := 200
abbrev F._law_likes : Nat := 201
abbrev F._law_limit_gaps : Nat := 202
abbrev F._law_limited : Nat := 203
abbrev F._law_limits : Nat := 204
abbrev F._law_lines : Nat := 205
abbrev F._law_lines_right : Nat := 206
abbrev F._law_lot : Nat := 207
abbrev F._law_lot_number : Nat := 208
abbrev F._law_lot_of : Nat := 209
abbrev F._law_lots : Nat := 210
abbrev F._law_lowest : Nat := 211
abbrev F._law_made : Nat := 212
abbrev F._law_making_rows : Nat := 213
abbrev F._law_many_right : Nat := 214
abbrev F._law_mix_cost : Nat := 215
abbrev F._law_mixed : Nat := 216
abbrev F._law_more : Nat := 217
abbrev F._law_more_lots : Nat := 218
abbrev F._law_more_right : Nat := 219
abbrev F._law_most_of : Nat := 220
abbrev F._law_moved : Nat := 221
abbrev F._law_mul : Nat := 222
abbrev F._law_name : Nat := 223
abbrev F._law_names : Nat := 224
abbrev F._law_narrow : Nat := 225
abbrev F._law_near : Nat := 226
abbrev F._law_neg : Nat := 227
abbrev F._law_new_lot : Nat := 228
abbrev F._law_new_order : Nat := 229
abbrev F._law_no_elevator : Nat := 230
abbrev F._law_no_house : Nat := 231
abbrev F._law_no_lines : Nat := 232
abbrev F._law_no_ticket : Nat := 233
abbrev F._law_none : Nat := 234
abbrev F._law_none_right : Nat := 235
abbrev F._law_number : Nat := 236
abbrev F._law_numbers : Nat := 237
abbrev F._law_odd : Nat := 238
abbrev F._law_odd_pays : Nat := 239
abbrev F._law_of : Nat := 240
abbrev F._law_of_group : Nat := 241
abbrev F._law_offer_rows : Nat := 242
abbrev F._law_open_right : Nat := 243
abbrev F._law_open_spec : Nat := 244
abbrev F._law_opened : Nat := 245
abbrev F._law_or_fault : Nat := 246
abbrev F._law_order : Nat := 247
abbrev F._law_order_of : Nat := 248
abbrev F._law_orders : Nat := 249
abbrev F._law_other : Nat := 250
abbrev F._law_other_fraction : Nat := 251
abbrev F._law_other_limits : Nat := 252
abbrev F._law_over : Nat := 253
abbrev F._law_own_gaps : Nat := 254
abbrev F._law_own_lines : Nat := 255
abbrev F._law_own_lots : Nat := 256
abbrev F._law_own_mixes : Nat := 257
abbrev F._law_own_terms : Nat := 258
abbrev F._law_own_worth : Nat := 259
abbrev F._law_paid : Nat := 260
abbrev F._law_paid_right : Nat := 261
abbrev F._law_pair_calls : Nat := 262
abbrev F._law_pairs : Nat := 263
abbrev F._law_parts : Nat := 264
abbrev F._law_paths : Nat := 265
abbrev F._law_people : Nat := 266
abbrev F._law_picks : Nat := 267
abbrev F._law_plain_spec : Nat := 268
abbrev F._law_plan : Nat := 269
abbrev F._law_plan_rows : Nat := 270
abbrev F._law_planned : Nat := 271
abbrev F._law_planned_right : Nat := 272
abbrev F._law_play_right : Nat := 273
abbrev F._law_plus : Nat := 274
abbrev F._law_proceeds : Nat := 275
abbrev F._law_put : Nat := 276
abbrev F._law_range_of : Nat := 277
abbrev F._law_refused_right : Nat := 278
abbrev F._law_renamed : Nat := 279
abbrev F._law_rests : Nat := 280
abbrev F._law_round_limits : Nat := 281
abbrev F._law_row_of_gain : Nat := 282
abbrev F._law_row_right : Nat := 283
abbrev F._law_rows_fault : Nat := 284
abbrev F._law_rule : Nat := 285
abbrev F._law_rules : Nat := 286
abbrev F._law_sales : Nat := 287
abbrev F._law_same : Nat := 288
abbrev F._law_scaled : Nat := 289
abbrev F._law_scaled_right : Nat := 290
abbrev F._law_shared_right : Nat := 291
abbrev F._law_short : Nat := 292
abbrev F._law_shown : Nat := 293
abbrev F._law_shuffled : Nat := 294
abbrev F._law_side_by_side : Nat := 295
abbrev F._law_sides : Nat := 296
abbrev F._law_signs : Nat := 297
abbrev F._law_small : Nat := 298
abbrev F._law_sold : Nat := 299
abbrev F._law_sold_by : Nat := 300
abbrev F._law_some : Nat := 301
abbrev F._law_some_limits : Nat := 302
abbrev F._law_spec : Nat := 303
abbrev F._law_spoil : Nat := 304
abbrev F._law_spoiled : Nat := 305
abbrev F._law_step_right : Nat := 306
abbrev F._law_stock : Nat := 307
abbrev F._law_stored : Nat := 308
abbrev F._law_stored_right : Nat := 309
abbrev F._law_sub : Nat := 310
abbrev F._law_sum_of : Nat := 311
abbrev F._law_table : Nat := 312
abbrev F._law_terms : Nat := 313
abbrev F._law_text : Nat := 314
abbrev F._law_ticket : Nat := 315
abbrev F._law_ticketed : Nat := 316
abbrev F._law_tight : Nat := 317
abbrev F._law_times : Nat := 318
abbrev F._law_told : Nat := 319
abbrev F._law_told_cost : Nat := 320
abbrev F._law_told_right : Nat := 321
abbrev F._law_total : Nat := 322
abbrev F._law_total_with : Nat := 323
abbrev F._law_turned : Nat := 324
abbrev F._law_turns_right : Nat := 325
abbrev F._law_two_right : Nat := 326
abbrev F._law_under : Nat := 327
abbrev F._law_unfillable : Nat := 328
abbrev F._law_unknowns : Nat := 329
abbrev F._law_unlike : Nat := 330
abbrev F._law_use : Nat := 331
abbrev F._law_uses : Nat := 332
abbrev F._law_value_to : Nat := 333
abbrev F._law_wet : Nat := 334
abbrev F._law_wider : Nat := 335
abbrev F._law_window_right : Nat := 336
abbrev F._law_with : Nat := 337
abbrev F._law_with_more : Nat := 338
abbrev F._law_word : Nat := 339
abbrev F._law_words : Nat := 340
abbrev F._law_worth : Nat := 341
abbrev F._wall : Nat := 342
abbrev F.alone : Nat := 343
abbrev F.are_contents : Nat := 344
abbrev F.are_limits : Nat := 345
abbrev F.are_lines : Nat := 346
abbrev F.as_lines : Nat := 347
abbrev F.at_most : Nat := 348
abbrev F.bare : Nat := 349
abbrev F.bare_worth : Nat := 350
abbrev F.below : Nat := 351
abbrev F.best : Nat := 352
abbrev F.best_of : Nat := 353
abbrev F.broken : Nat := 354
abbrev F.change : Nat := 355
abbrev F.changed : Nat := 356
abbrev F.cheapest_kilogram : Nat := 357
abbrev F.check_content : Nat := 358
abbrev F.check_day : Nat := 359
abbrev F.check_elevator : Nat := 360
abbrev F.check_lines : Nat := 361
abbrev F.check_lots : Nat := 362
abbrev F.check_orders : Nat := 363
abbrev F.check_plain : Nat := 364
abbrev F.check_plan : Nat := 365
abbrev F.common : Nat := 366
abbrev F.dried_least : Nat := 367
abbrev F.dried_of : Nat := 368
abbrev F.drying_gap : Nat := 369
abbrev F.drying_worth : Nat := 370
abbrev F.elevator_text : Nat := 371
abbrev F.first_broken : Nat := 372
abbrev F.first_shortage : Nat := 373
abbrev F.frac : Nat := 374
abbrev F.gain_of : Nat := 375
abbrev F.gaps : Nat := 376
abbrev F.greater : Nat := 377
abbrev F.greatest_of : Nat := 378
abbrev F.group : Nat := 379
abbrev F.group_of : Nat := 380
abbrev F.groups_of : Nat := 381
abbrev F.held : Nat := 382
abbrev F.house_of : Nat := 383
abbrev F.integer_of : Nat := 384
abbrev F.integers_of : Nat := 385
abbrev F.is_amounts : Nat := 386
abbrev F.is_best : Nat := 387
abbrev F.is_dryer : Nat := 388
abbrev F.is_fraction : Nat := 389
abbrev F.is_fractions : Nat := 390
abbrev F.is_in_time : Nat := 391
abbrev F.is_inside : Nat := 392
abbrev F.is_integer : Nat := 393
abbrev F.is_limit : Nat := 394
abbrev F.is_line : Nat := 395
abbrev F.is_lines : Nat := 396
abbrev F.is_lot : Nat := 397
abbrev F.is_measures : Nat := 398
abbrev F.is_name : Nat := 399
abbrev F.is_none : Nat := 400
abbrev F.is_none_paper : Nat := 401
abbrev F.is_order : Nat := 402
abbrev F.is_pair : Nat := 403
abbrev F.is_pays : Nat := 404
abbrev F.is_plain : Nat := 405
abbrev F.is_plain_order : Nat := 406
abbrev F.is_plan : Nat := 407
abbrev F.is_plan_form : Nat := 408
abbrev F.is_possible : Nat := 409
abbrev F.is_right : Nat := 410
abbrev F.is_ticket : Nat := 411
abbrev F.is_tuple_of : Nat := 412
abbrev F.is_within : Nat := 413
abbrev F.joined : Nat := 414
abbrev F.keeping : Nat := 415
abbrev F.kilogram_costs : Nat := 416
abbrev F.known : Nat := 417
abbrev F.law : Nat := 418
abbrev F.leaving : Nat := 419
abbrev F.less : Nat := 420
abbrev F.limit_gap : Nat := 421
abbrev F.limit_rows : Nat := 422
abbrev F.limits_of : Nat := 423
abbrev F.line_of : Nat := 424
abbrev F.lot_number : Nat := 425
abbrev F.lot_pairs : Nat := 426
abbrev F.lots_worth : Nat := 427
abbrev F.minus : Nat := 428
abbrev F.negated : Nat := 429
abbrev F.offer : Nat := 430
abbrev F.order_gap : Nat := 431
abbrev F.order_number : Nat := 432
abbrev F.order_pairs : Nat := 433
abbrev F.owners : Nat := 434
abbrev F.owners_of : Nat := 435
abbrev F.pairs_of : Nat := 436
abbrev F.parts_of : Nat := 437
abbrev F.payments : Nat := 438
abbrev F.plus : Nat := 439
abbrev F.proceeds : Nat := 440
abbrev F.proceeds_of : Nat := 441
abbrev F.read_elevator : Nat := 442
abbrev F.read_head : Nat := 443
abbrev F.read_lot : Nat := 444
abbrev F.read_order : Nat := 445
abbrev F.read_rows : Nat := 446
abbrev F.room_gap : Nat := 447
abbrev F.room_number : Nat := 448
abbrev F.rooms_worth : Nat := 449
abbrev F.scale_of : Nat := 450
abbrev F.scaled : Nat := 451
abbrev F.short_at : Nat := 452
abbrev F.shortage : Nat := 453
abbrev F.sold : Nat := 454
abbrev F.sold_of : Nat := 455
abbrev F.sold_range : Nat := 456
abbrev F.solved : Nat := 457
abbrev F.terms : Nat := 458
abbrev F.terms_of : Nat := 459
abbrev F.ticket_ends : Nat := 460
abbrev F.times : Nat := 461
abbrev F.total : Nat := 462
abbrev F.use_gap : Nat := 463
abbrev F.used_of : Nat := 464
abbrev F.valued : Nat := 465
abbrev F.whole : Nat := 466
abbrev F.with_lot : Nat := 467
abbrev F.with_order : Nat := 468
abbrev F.word_of : Nat := 469
abbrev F.worth : Nat := 470
abbrev F.worth_of : Nat := 471
abbrev F.worth_to : Nat := 472
abbrev F.written : Nat := 473
def fi_is_integer : FI := ⟨1, 1, [
    .ret (.and (.isi (.var 0) [(.bt "int")] ["Elevator"] false) (.not (.isi (.var 0) [(.bt "bool")] ["Elevator"] false)))]⟩
def fi_is_within : FI := ⟨3, 3, [
    .ret (.and (.call F.is_integer [(.var 0)]) (.chn .le .le (.var 1) (.var 0) (.var 2)))]⟩
def fi_is_name : FI := ⟨2, 1, [
    .iff (.or (.not (.isi (.var 0) [(.bt "str")] ["Elevator"] false)) (.not (.chn .le .le (.cst (.int 1)) (.bf .len [(.var 0)]) (.gc "MOST_NAME" (.int 8))))) [.ret (.cst (.bl false))] [],
    .ret (.bf .all [(.comp .seq [(.var 0)] (.nm 1) [1] [] (.cmp .isin (.var 1) (.gc "LETTERS" (.str "abcdefghijklmnopqrstuvwxyz"))))])]⟩
def fi_is_tuple_of : FI := ⟨2, 2, [
    .ret (.and (.isi (.var 0) [(.bt "tuple")] ["Elevator"] false) (.cmp .eq (.bf .len [(.var 0)]) (.var 1)))]⟩
def fi_is_pair : FI := ⟨2, 2, [
    .ret (.and (.call F.is_tuple_of [(.var 0), (.cst (.int 2))]) (.and (.call F.is_within [(.idx (.var 0) (.cst (.int 0))), (.cst (.int 0)), (.var 1)]) (.call F.is_within [(.idx (.var 0) (.cst (.int 1))), (.idx (.var 0) (.cst (.int 0))), (.var 1)])))]⟩
def fi_is_ticket : FI := ⟨3, 2, [
    .ret (.and (.call F.is_tuple_of [(.var 0), (.var 1)]) (.bf .all [(.comp .seq [(.var 0)] (.nm 2) [2] [] (.call F.is_pair [(.var 2), (.gc "THOUSAND" (.int 1000))]))]))]⟩
def fi_is_limit : FI := ⟨2, 1, [
    .iff (.not (.call F.is_tuple_of [(.var 0), (.cst (.int 2))])) [.ret (.cst (.bl false))] [],
    .iff (.not (.bf .all [(.comp .seq [(.var 0)] (.nm 1) [1] [] (.or (.cmp .is (.var 1) (.cst .non)) (.call F.is_within [(.var 1), (.cst (.int 0)), (.gc "THOUSAND" (.int 1000))])))])) [.ret (.cst (.bl false))] [],
    .ret (.or (.cmp .is (.idx (.var 0) (.cst (.int 0))) (.cst .non)) (.or (.cmp .is (.idx (.var 0) (.cst (.int 1))) (.cst .non)) (.cmp .le (.idx (.var 0) (.cst (.int 0))) (.idx (.var 0) (.cst (.int 1))))))]⟩
def fi_are_limits : FI := ⟨3, 2, [
    .ret (.and (.call F.is_tuple_of [(.var 0), (.var 1)]) (.bf .all [(.comp .seq [(.var 0)] (.nm 2) [2] [] (.call F.is_limit [(.var 2)]))]))]⟩
def fi_is_measures : FI := ⟨2, 1, [
    .iff (.or (.not (.isi (.var 0) [(.bt "tuple")] ["Elevator"] false)) (.not (.chn .le .le (.cst (.int 1)) (.bf .len [(.var 0)]) (.gc "MOST_MEASURES" (.int 3))))) [.ret (.cst (.bl false))] [],
    .ret (.and (.bf .all [(.comp .seq [(.var 0)] (.nm 1) [1] [] (.call F.is_name [(.var 1)]))]) (.cmp .eq (.lset (.var 0)) (.bf .len [(.var 0)])))]⟩
def fi_is_dryer : FI := ⟨2, 1, [
    .iff (.or (.not (.call F.is_tuple_of [(.var 0), (.cst (.int 3))])) (.or (.not (.call F.is_name [(.idx (.var 0) (.cst (.int 0)))])) (.not (.call F.is_within [(.idx (.var 0) (.cst (.int 1))), (.cst (.int 0)), (.gc "MOST_PRICE" (.int 1000000))])))) [.ret (.cst (.bl false))] [],
    .iff (.or (.not (.isi (.idx (.var 0) (.cst (.int 2))) [(.bt "tuple")] ["Elevator"] false)) (.not (.chn .le .le (.cst (.int 1)) (.bf .len [(.idx (.var 0) (.cst (.int 2)))]) (.gc "MOST_DAYS" (.int 20))))) [.ret (.cst (.bl false))] [],
    .ret (.bf .all [(.comp .seq [(.idx (.var 0) (.cst (.int 2)))] (.nm 1) [1] [] (.call F.is_within [(.var 1), (.cst (.int 0)), (.gc "MOST_WEIGHT" (.int 1000000))]))])]⟩
def fi_is_lot : FI := ⟨3, 3, [
    .iff (.or (.not (.call F.is_tuple_of [(.var 2), (.cst (.int 5))])) (.or (.not (.call F.is_name [(.idx (.var 2) (.cst (.int 0)))])) (.not (.call F.is_name [(.idx (.var 2) (.cst (.int 1)))])))) [.ret (.cst (.bl false))] [],
    .ret (.and (.call F.is_within [(.idx (.var 2) (.cst (.int 2))), (.cst (.int 0)), (.bin .sub (.var 1) (.cst (.int 1)))]) (.and (.call F.is_within [(.idx (.var 2) (.cst (.int 3))), (.cst (.int 1)), (.gc "MOST_WEIGHT" (.int 1000000))]) (.call F.is_ticket [(.idx (.var 2) (.cst (.int 4))), (.var 0)])))]⟩
def fi_is_order : FI := ⟨3, 3, [
    .iff (.or (.not (.call F.is_tuple_of [(.var 2), (.cst (.int 7))])) (.or (.not (.call F.is_name [(.idx (.var 2) (.cst (.int 0)))])) (.not (.call F.is_name [(.idx (.var 2) (.cst (.int 1)))])))) [.ret (.cst (.bl false))] [],
    .iff (.or (.not (.call F.is_within [(.idx (.var 2) (.cst (.int 2))), (.cst (.int 0)), (.bin .sub (.var 1) (.cst (.int 1)))])) (.not (.call F.is_within [(.idx (.var 2) (.cst (.int 4))), (.cst (.int 0)), (.gc "MOST_WEIGHT" (.int 1000000))]))) [.ret (.cst (.bl false))] [],
    .iff (.or (.not (.call F.is_within [(.idx (.var 2) (.cst (.int 3))), (.cst (.int 0)), (.idx (.var 2) (.cst (.int 4)))])) (.not (.call F.is_within [(.idx (.var 2) (.cst (.int 5))), (.neg (.gc "MOST_PRICE" (.int 1000000))), (.gc "MOST_PRICE" (.int 1000000))]))) [.ret (.cst (.bl false))] [],
    .ret (.call F.are_limits [(.idx (.var 2) (.cst (.int 6))), (.var 0)])]⟩
def fi_check_lots : FI := ⟨6, 3, [
    .iff (.not (.isi (.var 2) [(.bt "tuple")] ["Elevator"] false)) [.raise "BadElevator" (some F.BadElevator___init__) [(.gc "LOTS" (.str "lots")), (.neg (.cst (.int 1)))]] [],
    .set 3 (.lst []),
    .loop .enum [(.var 2)] (.tp [(.nm 4), (.nm 5)]) [.iff (.or (.cmp .ge (.var 4) (.gc "MOST_LOTS" (.int 12))) (.or (.not (.call F.is_lot [(.var 0), (.var 1), (.var 5)])) (.cmp .isin (.idx (.var 5) (.cst (.int 0))) (.var 3)))) [.raise "BadElevator" (some F.BadElevator___init__) [(.gc "LOTS" (.str "lots")), (.var 4)]] [], .ex (.bm .append (.var 3) [(.idx (.var 5) (.cst (.int 0)))])]]⟩
def fi_check_orders : FI := ⟨6, 3, [
    .iff (.not (.isi (.var 2) [(.bt "tuple")] ["Elevator"] false)) [.raise "BadElevator" (some F.BadElevator___init__) [(.gc "ORDERS" (.str "orders")), (.neg (.cst (.int 1)))]] [],
    .set 3 (.lst []),
    .loop .enum [(.var 2)] (.tp [(.nm 4), (.nm 5)]) [.iff (.or (.cmp .ge (.var 4) (.gc "MOST_ORDERS" (.int 8))) (.or (.not (.call F.is_order [(.var 0), (.var 1), (.var 5)])) (.cmp .isin (.idx (.var 5) (.cst (.int 0))) (.var 3)))) [.raise "BadElevator" (some F.BadElevator___init__) [(.gc "ORDERS" (.str "orders")), (.var 4)]] [], .ex (.bm .append (.var 3) [(.idx (.var 5) (.cst (.int 0)))])]]⟩
def fi_Elevator___init__ : FI := ⟨6, 6, [
    .iff (.not (.call F.is_measures [(.var 1)])) [.raise "BadElevator" (some F.BadElevator___init__) [(.gc "MEASURES" (.str "measures")), (.neg (.cst (.int 1)))]] [],
    .iff (.not (.call F.is_dryer [(.var 4)])) [.raise "BadElevator" (some F.BadElevator___init__) [(.gc "DRYER" (.str "dryer")), (.neg (.cst (.int 1)))]] [],
    .ex (.call F.check_lots [(.bf .len [(.var 1)]), (.bf .len [(.idx (.var 4) (.cst (.int 2)))]), (.var 2)]),
    .ex (.call F.check_orders [(.bf .len [(.var 1)]), (.bf .len [(.idx (.var 4) (.cst (.int 2)))]), (.var 3)]),
    .iff (.not (.call F.is_within [(.var 5), (.cst (.int 0)), (.gc "MOST_PRICE" (.int 1000000))])) [.raise "BadElevator" (some F.BadElevator___init__) [(.gc "STORING" (.str "storing")), (.neg (.cst (.int 1)))]] [],
    .att "Elevator" (.var 0) "measures" (.var 1),
    .att "Elevator" (.var 0) "lots" (.var 2),
    .att "Elevator" (.var 0) "orders" (.var 3),
    .att "Elevator" (.var 0) "dryer" (.var 4),
    .att "Elevator" (.var 0) "storing" (.var 5)]⟩
def fi_Elevator_told : FI := ⟨1, 1, [
    .ret (.tup [(.fld "Elevator" (.var 0) "measures"), (.fld "Elevator" (.var 0) "lots"), (.fld "Elevator" (.var 0) "orders"), (.fld "Elevator" (.var 0) "dryer"), (.fld "Elevator" (.var 0) "storing")])]⟩
def fi_Elevator___eq__ : FI := ⟨2, 2, [
    .iff (.not (.isi (.var 1) [(.own "Elevator")] ["Elevator"] false)) [.ret (.cst (.bl false))] [],
    .ret (.cmp .eq (.meth "Elevator" "told" F.Elevator_told (.var 0) []) (.meth "Elevator" "told" F.Elevator_told (.var 1) []))]⟩
def fi_check_elevator : FI := ⟨1, 1, [
    .iff (.not (.isi (.var 0) [(.own "Elevator")] ["Elevator"] false)) [.raise "NoElevator" none []] []]⟩
def fi_changed : FI := ⟨3, 3, [
    .ret (.new "Elevator" F.Elevator___init__ [(.fld "Elevator" (.var 0) "measures"), (.var 1), (.var 2), (.fld "Elevator" (.var 0) "dryer"), (.fld "Elevator" (.var 0) "storing")])]⟩
def fi_with_lot : FI := ⟨2, 2, [
    .ex (.call F.check_elevator [(.var 0)]),
    .ret (.call F.changed [(.var 0), (.bin .add (.fld "Elevator" (.var 0) "lots") (.tup [(.var 1)])), (.fld "Elevator" (.var 0) "orders")])]⟩
def fi_with_order : FI := ⟨2, 2, [
    .ex (.call F.check_elevator [(.var 0)]),
    .ret (.call F.changed [(.var 0), (.fld "Elevator" (.var 0) "lots"), (.bin .add (.fld "Elevator" (.var 0) "orders") (.tup [(.var 1)]))])]⟩
def fi_word_of : FI := ⟨1, 1, [
    .ret (.ite (.cmp .is (.var 0) (.cst .non)) (.gc "MISSING" (.str "-")) (.bf .str [(.var 0)]))]⟩
def fi_line_of : FI := ⟨2, 1, [
    .ret (.bin .add (.bm .join (.cst (.str " ")) [(.comp .seq [(.var 0)] (.nm 1) [1] [] (.call F.word_of [(.var 1)]))]) (.cst (.str "\n")))]⟩
def fi_elevator_text : FI := ⟨9, 1, [
    .ex (.call F.check_elevator [(.var 0)]),
    .setT [(.nm 4), (.nm 5), (.nm 6)] (.fld "Elevator" (.var 0) "dryer"),
    .set 1 (.lst [(.call F.line_of [(.bin .add (.tup [(.gc "MEASURES" (.str "measures"))]) (.fld "Elevator" (.var 0) "measures"))]), (.call F.line_of [(.bin .add (.tup [(.gc "DRYER" (.str "dryer")), (.var 4), (.var 5)]) (.var 6))])]),
    .ex (.bm .append (.var 1) [(.call F.line_of [(.tup [(.gc "STORING" (.str "storing")), (.fld "Elevator" (.var 0) "storing")])])]),
    .loop .seq [(.fld "Elevator" (.var 0) "lots")] (.nm 2) [.ex (.bm .append (.var 1) [(.call F.line_of [(.bin .add (.bin .add (.lst [(.gc "LOT" (.str "lot"))]) (.bf .list [(.slc (.var 2) none (some (.cst (.int 4))))])) (.flat 7 8 [7, 8] (.idx (.var 2) (.cst (.int 4)))))])])],
    .loop .seq [(.fld "Elevator" (.var 0) "orders")] (.nm 3) [.ex (.bm .append (.var 1) [(.call F.line_of [(.bin .add (.bin .add (.lst [(.gc "ORDER" (.str "order"))]) (.bf .list [(.slc (.var 3) none (some (.cst (.int 6))))])) (.flat 7 8 [7, 8] (.idx (.var 3) (.cst (.int 6)))))])])],
    .ret (.bm .join (.cst (.str "")) [(.var 1)])]⟩
def fi_integer_of : FI := ⟨3, 1, [
    .set 1 (.ite (.cmp .eq (.slc (.var 0) none (some (.cst (.int 1)))) (.cst (.str "-"))) (.slc (.var 0) (some (.cst (.int 1))) none) (.var 0)),
    .iff (.or (.not (.chn .le .le (.cst (.int 1)) (.bf .len [(.var 1)]) (.gc "MOST_DIGITS" (.int 9)))) (.not (.bf .all [(.comp .seq [(.var 1)] (.nm 2) [2] [] (.cmp .isin (.var 2) (.cst (.str "0123456789"))))]))) [.ret (.cst .non)] [],
    .iff (.and (.cmp .eq (.idx (.var 1) (.cst (.int 0))) (.cst (.str "0"))) (.or (.cmp .gt (.bf .len [(.var 1)]) (.cst (.int 1))) (.cmp .ne (.var 0) (.var 1)))) [.ret (.cst .non)] [],
    .ret (.bf .int [(.var 0)])]⟩
def fi_integers_of : FI := ⟨3, 1, [
    .set 1 (.comp .seq [(.var 0)] (.nm 2) [2] [] (.call F.integer_of [(.var 2)])),
    .ret (.ite (.cmp .isin (.cst .non) (.var 1)) (.cst .non) (.var 1))]⟩
def fi_pairs_of : FI := ⟨2, 1, [
    .ret (.bf .tuple [(.comp .rng [(.bin .fdiv (.bf .len [(.var 0)]) (.cst (.int 2)))] (.nm 1) [1] [] (.tup [(.idx (.var 0) (.bin .mul (.cst (.int 2)) (.var 1))), (.idx (.var 0) (.bin .add (.bin .mul (.cst (.int 2)) (.var 1)) (.cst (.int 1))))]))])]⟩
def fi_read_lot : FI := ⟨3, 2, [
    .iff (.or (.cmp .ne (.bf .len [(.var 1)]) (.bin .add (.cst (.int 5)) (.bin .mul (.cst (.int 2)) (.var 0)))) (.or (.cmp .ne (.idx (.var 1) (.cst (.int 0))) (.gc "LOT" (.str "lot"))) (.or (.not (.call F.is_name [(.idx (.var 1) (.cst (.int 1)))])) (.not (.call F.is_name [(.idx (.var 1) (.cst (.int 2)))]))))) [.ret (.cst .non)] [],
    .set 2 (.call F.integers_of [(.slc (.var 1) (some (.cst (.int 3))) none)]),
    .ret (.ite (.cmp .is (.var 2) (.cst .non)) (.cst .non) (.tup [(.idx (.var 1) (.cst (.int 1))), (.idx (.var 1) (.cst (.int 2))), (.idx (.var 2) (.cst (.int 0))), (.idx (.var 2) (.cst (.int 1))), (.call F.pairs_of [(.slc (.var 2) (some (.cst (.int 2))) none)])]))]⟩
def fi_read_order : FI := ⟨5, 2, [
    .iff (.or (.cmp .ne (.bf .len [(.var 1)]) (.bin .add (.cst (.int 7)) (.bin .mul (.cst (.int 2)) (.var 0)))) (.or (.cmp .ne (.idx (.var 1) (.cst (.int 0))) (.gc "ORDER" (.str "order"))) (.or (.not (.call F.is_name [(.idx (.var 1) (.cst (.int 1)))])) (.not (.call F.is_name [(.idx (.var 1) (.cst (.int 2)))]))))) [.ret (.cst .non)] [],
    .set 2 (.call F.integers_of [(.bin .add (.slc (.var 1) (some (.cst (.int 3))) (some (.cst (.int 7)))) (.comp .seq [(.slc (.var 1) (some (.cst (.int 7))) none)] (.nm 4) [4] [(.cmp .ne (.var 4) (.gc "MISSING" (.str "-")))] (.var 4)))]),
    .iff (.cmp .is (.var 2) (.cst .non)) [.ret (.cst .non)] [],
    .set 3 (.comp .seq [(.slc (.var 1) (some (.cst (.int 7))) none)] (.nm 4) [4] [] (.ite (.cmp .eq (.var 4) (.gc "MISSING" (.str "-"))) (.cst .non) (.call F.integer_of [(.var 4)]))),
    .ret (.bin .add (.bin .add (.tup [(.idx (.var 1) (.cst (.int 1))), (.idx (.var 1) (.cst (.int 2)))]) (.bf .tuple [(.slc (.var 2) none (some (.cst (.int 4))))])) (.tup [(.call F.pairs_of [(.var 3)])]))]⟩
def fi_read_head : FI := ⟨6, 1, [
    .set 1 (.bin .add (.comp .seq [(.slc (.var 0) none (some (.cst (.int 3))))] (.nm 4) [4] [] (.bm .split (.var 4) [(.cst (.str " "))])) (.bin .mul (.lst [(.lst [])]) (.bin .sub (.cst (.int 3)) (.bf .min [(.cst (.int 3)), (.bf .len [(.var 0)])])))),
    .iff (.or (.cmp .lt (.bf .len [(.idx (.var 1) (.cst (.int 0)))]) (.cst (.int 2))) (.or (.cmp .ne (.idx (.idx (.var 1) (.cst (.int 0))) (.cst (.int 0))) (.gc "MEASURES" (.str "measures"))) (.not (.bf .all [(.comp .seq [(.slc (.idx (.var 1) (.cst (.int 0))) (some (.cst (.int 1))) none)] (.nm 5) [5] [] (.call F.is_name [(.var 5)]))])))) [.ret (.cst (.int 1))] [],
    .iff (.or (.cmp .lt (.bf .len [(.idx (.var 1) (.cst (.int 1)))]) (.cst (.int 4))) (.or (.cmp .ne (.idx (.idx (.var 1) (.cst (.int 1))) (.cst (.int 0))) (.gc "DRYER" (.str "dryer"))) (.not (.call F.is_name [(.idx (.idx (.var 1) (.cst (.int 1))) (.cst (.int 1)))])))) [.ret (.cst (.int 2))] [],
    .set 2 (.call F.integers_of [(.slc (.idx (.var 1) (.cst (.int 1))) (some (.cst (.int 2))) none)]),
    .iff (.cmp .is (.var 2) (.cst .non)) [.ret (.cst (.int 2))] [],
    .iff (.or (.cmp .ne (.bf .len [(.idx (.var 1) (.cst (.int 2)))]) (.cst (.int 2))) (.or (.cmp .ne (.idx (.idx (.var 1) (.cst (.int 2))) (.cst (.int 0))) (.gc "STORING" (.str "storing"))) (.cmp .is (.call F.integer_of [(.idx (.idx (.var 1) (.cst (.int 2))) (.cst (.int 1)))]) (.cst .non)))) [.ret (.cst (.int 3))] [],
    .set 3 (.tup [(.idx (.idx (.var 1) (.cst (.int 1))) (.cst (.int 1))), (.idx (.var 2) (.cst (.int 0))), (.bf .tuple [(.slc (.var 2) (some (.cst (.int 1))) none)])]),
    .ret (.tup [(.bf .tuple [(.slc (.idx (.var 1) (.cst (.int 0))) (some (.cst (.int 1))) none)]), (.var 3), (.call F.integer_of [(.idx (.idx (.var 1) (.cst (.int 2))) (.cst (.int 1)))])])]⟩
def fi_read_rows : FI := ⟨9, 2, [
    .par [2, 3] [(.lst []), (.lst [])],
    .loop .enum [(.var 1)] (.tp [(.nm 4), (.nm 5)]) [.set 6 (.bm .split (.var 5) [(.cst (.str " "))]), .par [7, 8] [(.call F.read_lot [(.var 0), (.var 6)]), (.call F.read_order [(.var 0), (.var 6)])], .iff (.and (.cmp .isn (.var 7) (.cst .non)) (.cmp .eq (.bf .len [(.var 3)]) (.cst (.int 0)))) [.ex (.bm .append (.var 2) [(.var 7)])] [.iff (.cmp .isn (.var 8) (.cst .non)) [.ex (.bm .append (.var 3) [(.var 8)])] [.raise "BadText" (some F.BadText___init__) [(.bin .add (.var 4) (.cst (.int 4)))]]]],
    .ret (.tup [(.bf .tuple [(.var 2)]), (.bf .tuple [(.var 3)])])]⟩
def fi_read_elevator : FI := ⟨6, 1, [
    .iff (.not (.isi (.var 0) [(.bt "str")] ["Elevator"] false)) [.raise "BadText" (some F.BadText___init__) [(.cst (.int 0))]] [],
    .set 1 (.bm .split (.var 0) [(.cst (.str "\n"))]),
    .set 2 (.bm .pop (.var 1) []),
    .set 3 (.call F.read_head [(.var 1)]),
    .iff (.not (.isi (.var 3) [(.bt "tuple")] ["Elevator"] false)) [.raise "BadText" (some F.BadText___init__) [(.var 3)]] [],
    .setT [(.nm 4), (.nm 5)] (.call F.read_rows [(.bf .len [(.idx (.var 3) (.cst (.int 0)))]), (.slc (.var 1) (some (.cst (.int 3))) none)]),
    .iff (.cmp .ne (.var 2) (.cst (.str ""))) [.raise "BadText" (some F.BadText___init__) [(.bin .add (.bf .len [(.var 1)]) (.cst (.int 1)))]] [],
    .ret (.new "Elevator" F.Elevator___init__ [(.idx (.var 3) (.cst (.int 0))), (.var 4), (.var 5), (.idx (.var 3) (.cst (.int 1))), (.idx (.var 3) (.cst (.int 2)))])]⟩
def fi__law_hand : FI := ⟨3, 1, [
    .set 1 (.comp .seq [(.slc (.var 0) none (some (.cst (.int 63))))] (.nm 2) [2] [] (.bf .abs [(.bf .int [(.var 2)])])),
    .ret (.lst [(.var 1), (.cst (.int 0)), (.cst (.int 0)), (.bin .add (.cst (.int 61)) (.bin .mul (.cst (.int 7)) (.bf .len [(.var 1)]))), (.cst (.int 0))])]⟩
def fi__law_draw : FI := ⟨5, 2, [
    .iff (.and (.cmp .eq (.idx (.var 0) (.cst (.int 2))) (.cst (.int 0))) (.cmp .lt (.idx (.var 0) (.cst (.int 1))) (.bf .len [(.idx (.var 0) (.cst (.int 0)))]))) [.set 3 (.idx (.idx (.var 0) (.cst (.int 0))) (.idx (.var 0) (.cst (.int 1)))), .sub (.var 0) (.cst (.int 1)) (.bin .add (.idx (.var 0) (.cst (.int 1))) (.cst (.int 1))), .sub (.var 0) (.cst (.int 3)) (.bin .mod (.bf .int [(.bin .add (.bin .add (.bin .mul (.idx (.var 0) (.cst (.int 3))) (.cst (.int 69621))) (.bin .mul (.var 3) (.cst (.int 40692)))) (.cst (.int 23)))]) (.cst (.int 2147483629))), .iff (.cmp .ge (.var 3) (.bin .pow (.cst (.int 10)) (.cst (.int 18)))) [.sub (.var 0) (.cst (.int 2)) (.var 3)] []] [],
    .iff (.cmp .gt (.idx (.var 0) (.cst (.int 2))) (.cst (.int 0))) [.set 4 (.bin .mod (.bf .int [(.idx (.var 0) (.cst (.int 2)))]) (.var 1)), .sub (.var 0) (.cst (.int 2)) (.bin .fdiv (.idx (.var 0) (.cst (.int 2))) (.var 1)), .ret (.var 4)] [],
    .sub (.var 0) (.cst (.int 4)) (.bin .add (.idx (.var 0) (.cst (.int 4))) (.cst (.int 1))),
    .set 2 (.bin .mod (.bf .int [(.bin .mul (.bf .int [(.bin .add (.idx (.var 0) (.cst (.int 3))) (.bin .mul (.cst (.int 7919)) (.idx (.var 0) (.cst (.int 4)))))]) (.cst (.int 48271)))]) (.cst (.int 2147483647))),
    .set 2 (.bin .mod (.bf .int [(.bin .mul (.var 2) (.bin .add (.bin .fdiv (.var 2) (.cst (.int 1009))) (.cst (.int 69621))))]) (.cst (.int 2147483647))),
    .set 2 (.bin .mod (.bf .int [(.bin .mul (.var 2) (.bin .add (.bin .fdiv (.var 2) (.cst (.int 2003))) (.cst (.int 40014))))]) (.cst (.int 2147483563))),
    .ret (.bin .mod (.bf .int [(.bin .fdiv (.var 2) (.cst (.int 16)))]) (.var 1))]⟩
def fi__law_any : FI := ⟨2, 2, [
    .ret (.idx (.var 1) (.call F._law_draw [(.var 0), (.bf .len [(.var 1)])]))]⟩
def fi__law_name : FI := ⟨6, 2, [
    .set 2 (.cst (.str "abcdefghijklmnopqrstuvwxyz")),
    .set 3 (.bm .join (.cst (.str "")) [(.comp .rng [(.call F._law_any [(.var 0), (.lst [(.cst (.int 1)), (.cst (.int 1)), (.cst (.int 2)), (.cst (.int 3)), (.cst (.int 5)), (.cst (.int 8))])])] (.nm 5) [5] [] (.call F._law_any [(.var 0), (.var 2)]))]),
    .loop .seq [(.var 2)] (.nm 4) [.iff (.cmp .isin (.var 3) (.var 1)) [.set 3 (.bin .add (.var 4) (.slc (.var 3) none (some (.cst (.int 7)))))] []],
    .ret (.var 3)]⟩
def fi__law_names : FI := ⟨5, 3, [
    .set 3 (.lst []),
    .loop .rng [(.var 1)] (.nm 4) [.ex (.bm .append (.var 3) [(.call F._law_name [(.var 0), (.bin .add (.bf .list [(.var 2)]) (.var 3))])])],
    .ret (.bf .tuple [(.var 3)])]⟩
def fi__law_is : FI := ⟨4, 2, [
    .iff (.or (.cmp .is (.var 1) (.cst .non)) (.cmp .is (.var 0) (.cst .non))) [.ret (.and (.cmp .is (.var 1) (.cst .non)) (.cmp .is (.var 0) (.cst .non)))] [],
    .iff (.isi (.var 1) [(.bt "tuple"), (.bt "list")] ["Elevator"] true) [.iff (.or (.cmp .ne (.isi (.var 0) [(.bt "tuple")] ["Elevator"] false) (.isi (.var 1) [(.bt "tuple")] ["Elevator"] false)) (.cmp .ne (.isi (.var 0) [(.bt "list")] ["Elevator"] false) (.isi (.var 1) [(.bt "list")] ["Elevator"] false))) [.ret (.cst (.bl false))] [], .ret (.and (.cmp .eq (.bf .len [(.var 0)]) (.bf .len [(.var 1)])) (.bf .all [(.comp .zip [(.var 0), (.var 1)] (.tp [(.nm 2), (.nm 3)]) [2, 3] [] (.call F._law_is [(.var 2), (.var 3)]))]))] [],
    .iff (.or (.cmp .ne (.isi (.var 0) [(.bt "bool")] ["Elevator"] false) (.isi (.var 1) [(.bt "bool")] ["Elevator"] false)) (.cmp .ne (.isi (.var 0) [(.bt "int")] ["Elevator"] false) (.isi (.var 1) [(.bt "int")] ["Elevator"] false))) [.ret (.cst (.bl false))] [],
    .ret (.and (.cmp .eq (.isi (.var 0) [(.bt "str")] ["Elevator"] false) (.isi (.var 1) [(.bt "str")] ["Elevator"] false)) (.cmp .eq (.var 0) (.var 1)))]⟩
def fi__law_ticket : FI := ⟨5, 2, [
    .set 2 (.lst []),
    .loop .rng [(.var 1)] (.nm 3) [.set 4 (.call F._law_draw [(.var 0), (.call F._law_any [(.var 0), (.lst [(.cst (.int 1)), (.cst (.int 120)), (.cst (.int 300)), (.cst (.int 1001))])])]), .ex (.bm .append (.var 2) [(.tup [(.var 4), (.bf .min [(.cst (.int 1000)), (.bin .add (.var 4) (.call F._law_any [(.var 0), (.lst [(.cst (.int 0)), (.cst (.int 0)), (.cst (.int 10)), (.call F._law_draw [(.var 0), (.cst (.int 1001))])])]))])])])],
    .ret (.bf .tuple [(.var 2)])]⟩
def fi__law_stock : FI := ⟨13, 6, [
    .par [9, 10] [(.call F._law_names [(.var 0), (.var 2), (.lst [])]), (.lst [])],
    .loop .seq [(.var 9)] (.nm 6) [.set 11 (.bin .add (.cst (.int 1)) (.call F._law_draw [(.var 0), (.var 4)])), .ex (.bm .append (.var 10) [(.tup [(.var 6), (.call F._law_any [(.var 0), (.var 5)]), (.call F._law_draw [(.var 0), (.var 3)]), (.var 11), (.call F._law_ticket [(.var 0), (.var 1)])])])],
    .set 7 (.bf .tuple [(.comp .rng [(.var 3)] (.nm 12) [12] [] (.call F._law_any [(.var 0), (.lst [(.cst (.int 0)), (.cst (.int 1)), (.var 4), (.call F._law_draw [(.var 0), (.bin .add (.var 4) (.cst (.int 1)))])])]))]),
    .set 8 (.tup [(.call F._law_any [(.var 0), (.var 5)]), (.call F._law_any [(.var 0), (.lst [(.cst (.int 0)), (.cst (.int 1)), (.cst (.int 20)), (.call F._law_draw [(.var 0), (.cst (.int 101))])])]), (.var 7)]),
    .ret (.tup [(.call F._law_names [(.var 0), (.var 1), (.lst [])]), (.bf .tuple [(.var 10)]), (.var 8), (.call F._law_any [(.var 0), (.lst [(.cst (.int 0)), (.cst (.int 0)), (.cst (.int 1)), (.cst (.int 5))])])])]⟩
def fi__law_limits : FI := ⟨7, 2, [
    .set 2 (.lst []),
    .loop .rng [(.var 1)] (.nm 3) [.setT [(.nm 5), (.nm 6)] (.bf .sorted [(.lst [(.call F._law_draw [(.var 0), (.cst (.int 1001))]), (.call F._law_draw [(.var 0), (.cst (.int 1001))])])]), .set 4 (.call F._law_draw [(.var 0), (.cst (.int 5))]), .ex (.bm .append (.var 2) [(.tup [(.ite (.cmp .lt (.var 4) (.cst (.int 3))) (.cst .non) (.var 5)), (.ite (.cmp .isin (.var 4) (.tup [(.cst (.int 2)), (.cst (.int 4))])) (.cst .non) (.var 6))])])],
    .ret (.bf .tuple [(.var 2)])]⟩
def fi__law_text : FI := ⟨8, 1, [
    .set 1 (.lst [(.bin .add (.cst (.str "measures ")) (.bm .join (.cst (.str " ")) [(.idx (.var 0) (.cst (.int 0)))]))]),
    .ex (.bm .append (.var 1) [(.bm .join (.cst (.str " ")) [(.bin .add (.lst [(.cst (.str "dryer")), (.idx (.idx (.var 0) (.cst (.int 3))) (.cst (.int 0))), (.bf .str [(.idx (.idx (.var 0) (.cst (.int 3))) (.cst (.int 1)))])]) (.comp .seq [(.idx (.idx (.var 0) (.cst (.int 3))) (.cst (.int 2)))] (.nm 7) [7] [] (.bf .str [(.var 7)])))])]),
    .ex (.bm .append (.var 1) [(.bin .add (.cst (.str "storing ")) (.bf .str [(.idx (.var 0) (.cst (.int 4)))]))]),
    .loop .seq [(.idx (.var 0) (.cst (.int 1)))] (.nm 2) [.set 4 (.lst [(.cst (.str "lot")), (.idx (.var 2) (.cst (.int 0))), (.idx (.var 2) (.cst (.int 1))), (.bf .str [(.idx (.var 2) (.cst (.int 2)))]), (.bf .str [(.idx (.var 2) (.cst (.int 3)))])]), .loop .seq [(.idx (.var 2) (.cst (.int 4)))] (.nm 5) [.ex (.bm .extend (.var 4) [(.lst [(.bf .str [(.idx (.var 5) (.cst (.int 0)))]), (.bf .str [(.idx (.var 5) (.cst (.int 1)))])])])], .ex (.bm .append (.var 1) [(.bm .join (.cst (.str " ")) [(.var 4)])])],
    .loop .seq [(.idx (.var 0) (.cst (.int 2)))] (.nm 3) [.set 4 (.bin .add (.lst [(.cst (.str "order")), (.idx (.var 3) (.cst (.int 0))), (.idx (.var 3) (.cst (.int 1)))]) (.comp .seq [(.slc (.var 3) (some (.cst (.int 2))) (some (.cst (.int 6))))] (.nm 7) [7] [] (.bf .str [(.var 7)]))), .loop .seq [(.idx (.var 3) (.cst (.int 6)))] (.nm 5) [.ex (.bm .extend (.var 4) [(.comp .seq [(.var 5)] (.nm 7) [7] [] (.ite (.cmp .is (.var 7) (.cst .non)) (.cst (.str "-")) (.bf .str [(.var 7)])))])], .ex (.bm .append (.var 1) [(.bm .join (.cst (.str " ")) [(.var 4)])])],
    .ret (.bm .join (.cst (.str "")) [(.comp .seq [(.var 1)] (.nm 6) [6] [] (.bin .add (.var 6) (.cst (.str "\n"))))])]⟩
def fi__law_made : FI := ⟨1, 1, [
    .ret (.new "Elevator" F.Elevator___init__ [(.idx (.var 0) (.cst (.int 0))), (.idx (.var 0) (.cst (.int 1))), (.idx (.var 0) (.cst (.int 2))), (.idx (.var 0) (.cst (.int 3))), (.idx (.var 0) (.cst (.int 4)))])]⟩
def fi__law_fields : FI := ⟨1, 1, [
    .ret (.tup [(.fld "Elevator" (.var 0) "measures"), (.fld "Elevator" (.var 0) "lots"), (.fld "Elevator" (.var 0) "orders"), (.fld "Elevator" (.var 0) "dryer"), (.fld "Elevator" (.var 0) "storing")])]⟩
def fi__law_spec : FI := ⟨17, 4, [
    .par [6, 7, 8] [(.bin .add (.cst (.int 1)) (.call F._law_draw [(.var 0), (.cst (.int 3))])), (.bin .add (.cst (.int 1)) (.call F._law_draw [(.var 0), (.cst (.int 5))])), (.call F._law_names [(.var 0), (.bin .add (.cst (.int 1)) (.call F._law_draw [(.var 0), (.cst (.int 4))])), (.lst [])])],
    .setT [(.nm 9), (.nm 10), (.nm 11), (.nm 12)] (.call F._law_stock [(.var 0), (.var 6), (.call F._law_draw [(.var 0), (.bin .add (.var 1) (.cst (.int 1)))]), (.var 7), (.var 3), (.var 8)]),
    .set 4 (.lst []),
    .loop .seq [(.call F._law_names [(.var 0), (.call F._law_draw [(.var 0), (.bin .add (.var 2) (.cst (.int 1)))]), (.lst [])])] (.nm 5) [.set 13 (.call F._law_any [(.var 0), (.lst [(.cst (.int 0)), (.cst (.int 0)), (.call F._law_draw [(.var 0), (.bin .add (.var 3) (.cst (.int 1)))])])]), .par [15, 16] [(.bin .add (.var 13) (.call F._law_draw [(.var 0), (.bin .add (.bin .sub (.var 3) (.var 13)) (.cst (.int 1)))])), (.call F._law_any [(.var 0), (.lst [(.cst (.int 0)), (.cst (.int 7)), (.bin .sub (.call F._law_draw [(.var 0), (.cst (.int 101))]) (.cst (.int 50)))])])], .set 14 (.call F._law_draw [(.var 0), (.var 7)]), .ex (.bm .append (.var 4) [(.tup [(.var 5), (.call F._law_any [(.var 0), (.var 8)]), (.var 14), (.var 13), (.var 15), (.var 16), (.call F._law_limits [(.var 0), (.var 6)])])])],
    .ret (.tup [(.var 9), (.var 10), (.bf .tuple [(.var 4)]), (.var 11), (.var 12)])]⟩
def fi__law_is_read : FI := ⟨4, 1, [
    .set 1 (.call F._law_text [(.var 0)]),
    .set 2 (.call F.read_elevator [(.var 1)]),
    .iff (.or (.not (.call F._law_is [(.call F._law_fields [(.var 2)]), (.var 0)])) (.not (.call F._law_is [(.call F.elevator_text [(.var 2)]), (.var 1)]))) [.ret (.cst (.bl false))] [],
    .set 3 (.call F._law_made [(.var 0)]),
    .iff (.or (.not (.call F._law_is [(.call F.elevator_text [(.var 3)]), (.var 1)])) (.not (.call F._law_is [(.lst [(.oeq false "Elevator" F.Elevator___eq__ (.var 2) (.var 3)), (.oeq true "Elevator" F.Elevator___eq__ (.var 2) (.var 3))]), (.lst [(.cst (.bl true)), (.cst (.bl false))])]))) [.ret (.cst (.bl false))] [],
    .ret (.call F._law_is [(.call F.elevator_text [(.call F.read_elevator [(.call F.elevator_text [(.var 3)])])]), (.var 1)])]⟩
def fi__law_ends : FI := ⟨16, 2, [
    .par [5, 6, 7] [(.lst [(.cst (.str "lot")), (.cst (.str "order")), (.cst (.str "measures")), (.cst (.str "dryer")), (.cst (.str "storing")), (.cst (.str "a"))]), (.lst []), (.lst [])],
    .loop .enum [(.idx (.var 1) (.cst (.int 1)))] (.tp [(.nm 8), (.nm 9)]) [.set 10 (.ite (.cmp .eq (.call F._law_draw [(.var 0), (.cst (.int 2))]) (.cst (.int 0))) (.idx (.var 5) (.var 8)) (.idx (.var 9) (.cst (.int 0)))), .set 11 (.bf .tuple [(.comp .seq [(.idx (.var 9) (.cst (.int 4)))] (.nm 14) [14] [] (.call F._law_any [(.var 0), (.lst [(.var 14), (.tup [(.cst (.int 0)), (.cst (.int 0))]), (.tup [(.cst (.int 1000)), (.cst (.int 1000))]), (.tup [(.cst (.int 0)), (.cst (.int 1000))])])]))]), .ex (.bm .append (.var 6) [(.tup [(.var 10), (.call F._law_any [(.var 0), (.var 5)]), (.idx (.var 9) (.cst (.int 2))), (.call F._law_any [(.var 0), (.lst [(.idx (.var 9) (.cst (.int 3))), (.cst (.int 1)), (.bin .pow (.cst (.int 10)) (.cst (.int 6)))])]), (.var 11)])])],
    .loop .seq [(.idx (.var 1) (.cst (.int 2)))] (.nm 2) [.set 12 (.bf .tuple [(.comp .seq [(.idx (.var 2) (.cst (.int 6)))] (.nm 14) [14] [] (.call F._law_any [(.var 0), (.lst [(.var 14), (.tup [(.cst (.int 0)), (.cst (.int 1000))]), (.tup [(.cst .non), (.cst (.int 0))]), (.tup [(.cst (.int 1000)), (.cst .non)])])]))]), .set 13 (.call F._law_any [(.var 0), (.lst [(.idx (.var 2) (.cst (.int 5))), (.bin .pow (.cst (.int 10)) (.cst (.int 6))), (.neg (.bin .pow (.cst (.int 10)) (.cst (.int 6)))), (.neg (.cst (.int 1))), (.cst (.int 0))])]), .ex (.bm .append (.var 7) [(.bin .add (.slc (.var 2) none (some (.cst (.int 3)))) (.tup [(.cst (.int 0)), (.call F._law_any [(.var 0), (.lst [(.cst (.int 0)), (.bin .pow (.cst (.int 10)) (.cst (.int 6)))])]), (.var 13), (.var 12)]))])],
    .set 3 (.tup [(.call F._law_any [(.var 0), (.var 5)]), (.call F._law_any [(.var 0), (.lst [(.cst (.int 0)), (.bin .pow (.cst (.int 10)) (.cst (.int 6)))])]), (.idx (.idx (.var 1) (.cst (.int 3))) (.cst (.int 2)))]),
    .set 4 (.comp .seq [(.var 6)] (.nm 9) [9] [] (.idx (.var 9) (.cst (.int 0)))),
    .iff (.cmp .gt (.bf .len [(.comp .seq [(.var 4)] (.nm 15) [15] [(.cmp .gt (.bm .count (.var 4) [(.var 15)]) (.cst (.int 1)))] (.var 15))]) (.cst (.int 0))) [.set 6 (.comp .enum [(.var 6)] (.tp [(.nm 8), (.nm 9)]) [8, 9] [] (.bin .add (.tup [(.idx (.cst (.str "abcdefghijkl")) (.var 8))]) (.slc (.var 9) (some (.cst (.int 1))) none)))] [],
    .ret (.tup [(.idx (.var 1) (.cst (.int 0))), (.bf .tuple [(.var 6)]), (.bf .tuple [(.var 7)]), (.var 3), (.call F._law_any [(.var 0), (.lst [(.cst (.int 0)), (.bin .pow (.cst (.int 10)) (.cst (.int 6)))])])])]⟩
def fi__law_lines_right : FI := ⟨8, 1, [
    .set 1 (.slc (.bm .split (.call F._law_text [(.var 0)]) [(.cst (.str "\n"))]) none (some (.neg (.cst (.int 1))))),
    .set 2 (.call F._law_made [(.bin .add (.tup [(.idx (.var 0) (.cst (.int 0))), (.tup []), (.tup [])]) (.slc (.var 0) (some (.cst (.int 3))) none))]),
    .loop .enum [(.idx (.var 0) (.cst (.int 2)))] (.tp [(.nm 3), (.nm 4)]) [.set 2 (.call F.with_order [(.var 2), (.var 4)])],
    .loop .enum [(.idx (.var 0) (.cst (.int 1)))] (.tp [(.nm 3), (.nm 5)]) [.set 2 (.call F.with_lot [(.var 2), (.var 5)]), .set 6 (.bin .add (.slc (.var 1) none (some (.bin .add (.cst (.int 4)) (.var 3)))) (.slc (.var 1) (some (.bin .add (.cst (.int 3)) (.bf .len [(.idx (.var 0) (.cst (.int 1)))]))) none)), .iff (.not (.call F._law_is [(.call F.elevator_text [(.var 2)]), (.bm .join (.cst (.str "")) [(.comp .seq [(.var 6)] (.nm 7) [7] [] (.bin .add (.var 7) (.cst (.str "\n"))))])])) [.ret (.cst (.bl false))] []],
    .ret (.call F._law_is [(.call F.elevator_text [(.var 2)]), (.call F._law_text [(.var 0)])])]⟩
def fi_law : FI := ⟨15, 1, [
    .set 1 (.call F._law_hand [(.var 0)]),
    .loop .rng [(.cst (.int 4))] (.nm 2) [.set 5 (.call F._law_spec [(.var 1), (.cst (.int 5)), (.cst (.int 4)), (.call F._law_any [(.var 1), (.lst [(.cst (.int 9)), (.cst (.int 1000)), (.bin .pow (.cst (.int 10)) (.cst (.int 6)))])])]), .loop .seq [(.tup [(.var 5), (.call F._law_ends [(.var 1), (.var 5)])])] (.nm 6) [.iff (.or (.not (.call F._law_is_read [(.var 6)])) (.not (.call F._law_lines_right [(.var 6)]))) [.ret (.cst (.bl false))] []]],
    .par [7, 8] [(.call F._law_names [(.var 1), (.cst (.int 3)), (.lst [])]), (.call F._law_names [(.var 1), (.cst (.int 5)), (.lst [])])],
    .par [9, 10] [(.lst []), (.lst [])],
    .loop .seq [(.cst (.str "abcdefghijkl"))] (.nm 3) [.set 11 (.bin .add (.cst (.int 1)) (.call F._law_draw [(.var 1), (.bin .pow (.cst (.int 10)) (.cst (.int 6)))])), .ex (.bm .append (.var 9) [(.tup [(.var 3), (.call F._law_any [(.var 1), (.var 8)]), (.call F._law_draw [(.var 1), (.cst (.int 20))]), (.var 11), (.call F._law_ticket [(.var 1), (.cst (.int 3))])])])],
    .loop .seq [(.cst (.str "abcdefgh"))] (.nm 3) [.par [12, 13] [(.call F._law_draw [(.var 1), (.bin .pow (.cst (.int 10)) (.cst (.int 6)))]), (.bin .sub (.call F._law_draw [(.var 1), (.bin .add (.bin .mul (.cst (.int 2)) (.bin .pow (.cst (.int 10)) (.cst (.int 6)))) (.cst (.int 1)))]) (.bin .pow (.cst (.int 10)) (.cst (.int 6))))], .ex (.bm .append (.var 10) [(.tup [(.var 3), (.call F._law_any [(.var 1), (.var 8)]), (.cst (.int 19)), (.var 12), (.bin .pow (.cst (.int 10)) (.cst (.int 6))), (.var 13), (.call F._law_limits [(.var 1), (.cst (.int 3))])])])],
    .set 4 (.tup [(.idx (.var 8) (.cst (.int 0))), (.call F._law_draw [(.var 1), (.bin .add (.bin .pow (.cst (.int 10)) (.cst (.int 6))) (.cst (.int 1)))]), (.bf .tuple [(.comp .rng [(.cst (.int 20))] (.nm 14) [14] [] (.call F._law_draw [(.var 1), (.bin .add (.bin .pow (.cst (.int 10)) (.cst (.int 6))) (.cst (.int 1)))]))])]),
    .set 5 (.tup [(.var 7), (.bf .tuple [(.var 9)]), (.bf .tuple [(.var 10)]), (.var 4), (.bin .pow (.cst (.int 10)) (.cst (.int 6)))]),
    .ret (.and (.call F._law_is_read [(.var 5)]) (.and (.call F._law_lines_right [(.var 5)]) (.call F._law_is_read [(.tup [(.tup [(.cst (.str "w"))]), (.tup []), (.tup []), (.tup [(.cst (.str "d")), (.cst (.int 0)), (.tup [(.cst (.int 0))])]), (.cst (.int 0))])])))]⟩
end G

namespace G
class Base (FT : Nat → Option FI) : Prop where
  is_integer : FT F.is_integer = some fi_is_integer
  is_within : FT F.is_within = some fi_is_within
  is_name : FT F.is_name = some fi_is_name
  is_tuple_of : FT F.is_tuple_of = some fi_is_tuple_of
  is_pair : FT F.is_pair = some fi_is_pair
  is_ticket : FT F.is_ticket = some fi_is_ticket
  is_limit : FT F.is_limit = some fi_is_limit
  are_limits : FT F.are_limits = some fi_are_limits
  is_measures : FT F.is_measures = some fi_is_measures
  is_dryer : FT F.is_dryer = some fi_is_dryer
  is_lot : FT F.is_lot = some fi_is_lot
  is_order : FT F.is_order = some fi_is_order
  check_lots : FT F.check_lots = some fi_check_lots
  check_orders : FT F.check_orders = some fi_check_orders
  Elevator___init__ : FT F.Elevator___init__ = some fi_Elevator___init__
  Elevator_told : FT F.Elevator_told = some fi_Elevator_told
  Elevator___eq__ : FT F.Elevator___eq__ = some fi_Elevator___eq__
  check_elevator : FT F.check_elevator = some fi_check_elevator
  changed : FT F.changed = some fi_changed
  with_lot : FT F.with_lot = some fi_with_lot
  with_order : FT F.with_order = some fi_with_order
  word_of : FT F.word_of = some fi_word_of
  line_of : FT F.line_of = some fi_line_of
  elevator_text : FT F.elevator_text = some fi_elevator_text
  integer_of : FT F.integer_of = some fi_integer_of
  integers_of : FT F.integers_of = some fi_integers_of
  pairs_of : FT F.pairs_of = some fi_pairs_of
  read_lot : FT F.read_lot = some fi_read_lot
  read_order : FT F.read_order = some fi_read_order
  read_head : FT F.read_head = some fi_read_head
  read_rows : FT F.read_rows = some fi_read_rows
  read_elevator : FT F.read_elevator = some fi_read_elevator
  _law_hand : FT F._law_hand = some fi__law_hand
  _law_draw : FT F._law_draw = some fi__law_draw
  _law_any : FT F._law_any = some fi__law_any
  _law_name : FT F._law_name = some fi__law_name
  _law_names : FT F._law_names = some fi__law_names
  _law_is : FT F._law_is = some fi__law_is
  _law_ticket : FT F._law_ticket = some fi__law_ticket
  _law_stock : FT F._law_stock = some fi__law_stock
  _law_limits : FT F._law_limits = some fi__law_limits
  _law_text : FT F._law_text = some fi__law_text
  _law_made : FT F._law_made = some fi__law_made
  _law_fields : FT F._law_fields = some fi__law_fields
  _law_spec : FT F._law_spec = some fi__law_spec
  _law_is_read : FT F._law_is_read = some fi__law_is_read
  _law_ends : FT F._law_ends = some fi__law_ends
  _law_lines_right : FT F._law_lines_right = some fi__law_lines_right
  law : FT F.law = some fi_law
end G

namespace G
open PySem PySem.Spec PyProof.Rows L2
local macro_rules
  | `(tactic| decreasing_trivial_pre_omega) => `(tactic| try simp only [startP, List.map_cons, List.map_nil, List.length_cons, List.length_nil, List.replicate_succ, List.replicate_zero, List.append_nil, List.cons_append, List.nil_append, Nat.reduceAdd, Nat.reduceSub, Nat.reduceLeDiff, List.zip_cons_cons, List.zip_nil_right, List.foldl_cons, List.foldl_nil, List.set_cons_zero, List.set_cons_succ, true_and, and_true, if_true, if_false, Bool.false_eq_true, Bool.not_true, Bool.not_false, Bool.true_eq_false, wipeP, nc, decide_true, decide_false, Int.reduceEq, Int.reduceLE, Int.reduceLT, Int.reduceNeg, Int.reduceSub, Int.reduceAdd, Int.reduceMul, Nat.reduceLT, eq_self, ↓getV_0, ↓getV_s, ↓getT_0, ↓getT_s, ↓ss_cons, ↓ss_nil, ↓s_par', ↓s_iff', ↓s_set', ↓s_ret', ↓s_retN', ↓s_ex', ↓s_brk', ↓s_cont', ↓s_pass', ↓s_setT', ↓es_cons, ↓es_nil, ↓rs_cons, ↓rs_nil, ↓e_var, ↓e_cst, ↓e_gc, ↓e_cmp, ↓e_chn, ↓e_not, ↓e_and, ↓e_or, ↓e_ite, ↓e_neg, ↓e_call, ↓e_bin, ↓e_tup', ↓e_lst', ↓m_tmp, ↓e_bf, ↓e_idx, ↓e_isi, ↓e_fld, ↓e_meth, ↓e_new, ↓e_bm, ↓e_dct, ↓e_lamc, ↓s_raise0, ↓s_try', ↓c_lt, ↓c_le, ↓c_gt, ↓c_ge, ↓c_eq, ↓c_ne, ↓c_isb, ↓c_isnb, ↓c_is, ↓c_isn, ↓c_eqb, ↓c_neb, ↓c_eqs, ↓c_nes, ↓nn_int, ↓nn_bl, ↓nn_str, ↓nn_tup, ↓nn_ref, ↓nn_non, ↓ex_bl, ↓ex_int, ↓b_add, ↓b_sub, ↓b_mul, ↓b_mod, ↓b_fdiv, ↓f_abs, ↓f_int, ↓f_lenT, ↓f_lenS, ↓f_tupT, ↓f_tupP, ↓f_min2, ↓f_min4, ↓f_max2, ↓i_tup, ↓m_int, ↓m_bl, ↓m_non, ↓m_str, ↓m_tup, ↓m_ref, ↓m_rp, ↓cs_nil, ↓cs_one, ↓a_nm, ↓a_tup, ↓as_nil, ↓as_cons, ↓up_up, ↓is_int_int, ↓is_int_bool, ↓is_int_tuple, ↓is_int_list, ↓is_int_str, ↓is_int_tuple_list, ↓is_int_dict, ↓is_int_int_str, ↓is_int_list_tuple, ↓is_int_own, ↓is_bool_int, ↓is_bool_bool, ↓is_bool_tuple, ↓is_bool_list, ↓is_bool_str, ↓is_bool_tuple_list, ↓is_bool_dict, ↓is_bool_int_str, ↓is_bool_list_tuple, ↓is_bool_own, ↓is_str_int, ↓is_str_bool, ↓is_str_tuple, ↓is_str_list, ↓is_str_str, ↓is_str_tuple_list, ↓is_str_dict, ↓is_str_int_str, ↓is_str_list_tuple, ↓is_str_own, ↓is_tuple_int, ↓is_tuple_bool, ↓is_tuple_tuple, ↓is_tuple_list, ↓is_tuple_str, ↓is_tuple_tuple_list, ↓is_tuple_dict, ↓is_tuple_int_str, ↓is_tuple_list_tuple, ↓is_tuple_own, ↓is_NoneType_int, ↓is_NoneType_bool, ↓is_NoneType_tuple, ↓is_NoneType_list, ↓is_NoneType_str, ↓is_NoneType_tuple_list, ↓is_NoneType_dict, ↓is_NoneType_int_str, ↓is_NoneType_list_tuple, ↓is_NoneType_own])
local macro_rules
  | `(tactic| decreasing_with simp only [$xs,*]) => `(tactic| simp only [startP, List.map_cons, List.map_nil, List.length_cons, List.length_nil, List.replicate_succ, List.replicate_zero, List.append_nil, List.cons_append, List.nil_append, Nat.reduceAdd, Nat.reduceSub, Nat.reduceLeDiff, List.zip_cons_cons, List.zip_nil_right, List.foldl_cons, List.foldl_nil, List.set_cons_zero, List.set_cons_succ, true_and, and_true, if_true, if_false, Bool.false_eq_true, Bool.not_true, Bool.not_false, Bool.true_eq_false, wipeP, nc, decide_true, decide_false, Int.reduceEq, Int.reduceLE, Int.reduceLT, Int.reduceNeg, Int.reduceSub, Int.reduceAdd, Int.reduceMul, Nat.reduceLT, eq_self, ↓getV_0, ↓getV_s, ↓getT_0, ↓getT_s, ↓ss_cons, ↓ss_nil, ↓s_par', ↓s_iff', ↓s_set', ↓s_ret', ↓s_retN', ↓s_ex', ↓s_brk', ↓s_cont', ↓s_pass', ↓s_setT', ↓es_cons, ↓es_nil, ↓rs_cons, ↓rs_nil, ↓e_var, ↓e_cst, ↓e_gc, ↓e_cmp, ↓e_chn, ↓e_not, ↓e_and, ↓e_or, ↓e_ite, ↓e_neg, ↓e_call, ↓e_bin, ↓e_tup', ↓e_lst', ↓m_tmp, ↓e_bf, ↓e_idx, ↓e_isi, ↓e_fld, ↓e_meth, ↓e_new, ↓e_bm, ↓e_dct, ↓e_lamc, ↓s_raise0, ↓s_try', ↓c_lt, ↓c_le, ↓c_gt, ↓c_ge, ↓c_eq, ↓c_ne, ↓c_isb, ↓c_isnb, ↓c_is, ↓c_isn, ↓c_eqb, ↓c_neb, ↓c_eqs, ↓c_nes, ↓nn_int, ↓nn_bl, ↓nn_str, ↓nn_tup, ↓nn_ref, ↓nn_non, ↓ex_bl, ↓ex_int, ↓b_add, ↓b_sub, ↓b_mul, ↓b_mod, ↓b_fdiv, ↓f_abs, ↓f_int, ↓f_lenT, ↓f_lenS, ↓f_tupT, ↓f_tupP, ↓f_min2, ↓f_min4, ↓f_max2, ↓i_tup, ↓m_int, ↓m_bl, ↓m_non, ↓m_str, ↓m_tup, ↓m_ref, ↓m_rp, ↓cs_nil, ↓cs_one, ↓a_nm, ↓a_tup, ↓as_nil, ↓as_cons, ↓up_up, ↓is_int_int, ↓is_int_bool, ↓is_int_tuple, ↓is_int_list, ↓is_int_str, ↓is_int_tuple_list, ↓is_int_dict, ↓is_int_int_str, ↓is_int_list_tuple, ↓is_int_own, ↓is_bool_int, ↓is_bool_bool, ↓is_bool_tuple, ↓is_bool_list, ↓is_bool_str, ↓is_bool_tuple_list, ↓is_bool_dict, ↓is_bool_int_str, ↓is_bool_list_tuple, ↓is_bool_own, ↓is_str_int, ↓is_str_bool, ↓is_str_tuple, ↓is_str_list, ↓is_str_str, ↓is_str_tuple_list, ↓is_str_dict, ↓is_str_int_str, ↓is_str_list_tuple, ↓is_str_own, ↓is_tuple_int, ↓is_tuple_bool, ↓is_tuple_tuple, ↓is_tuple_list, ↓is_tuple_str, ↓is_tuple_tuple_list, ↓is_tuple_dict, ↓is_tuple_int_str, ↓is_tuple_list_tuple, ↓is_tuple_own, ↓is_NoneType_int, ↓is_NoneType_bool, ↓is_NoneType_tuple, ↓is_NoneType_list, ↓is_NoneType_str, ↓is_NoneType_tuple_list, ↓is_NoneType_dict, ↓is_NoneType_int_str, ↓is_NoneType_list_tuple, ↓is_NoneType_own, $xs,*])
section
variable {FT : Nat → Option FI} [B : Base FT] {k : Nat} {μ : PM} {P : Post} {X : XPost}
abbrev zf (a : Int) : PV := .tup [.int a, .int 1]
abbrev fr (p : Int × Int) : PV := .tup [.int p.1, .int p.2]
def fracL (a b : Int) : Int × Int := if b < 0 then ((-a) / (Int.gcd a b : Int), (-b) / (Int.gcd a b : Int)) else (a / (Int.gcd a b : Int), b / (Int.gcd a b : Int))
theorem gcd_log {a b : Int} (hb : b ≠ 0) (hs : b.natAbs.log2 < 9000) : 0 < (Int.gcd a b : Int) ∧ ((Int.gcd a b : Int)).natAbs.log2 < 9000 := by
  have gpos : 0 < (Int.gcd a b : Int) := by
    have := Int.gcd_pos_of_ne_zero_right a hb
    omega
  refine ⟨gpos, ?_⟩
  have h1 : (Int.gcd a b) ≤ b.natAbs := Nat.le_of_dvd (by omega) (Nat.gcd_dvd_right _ _)
  have h2 : ((Int.gcd a b : Int)).natAbs = Int.gcd a b := by simp
  rw [h2]
  by_cases z : Int.gcd a b = 0
  · rw [z]; decide
  · refine Nat.lt_of_le_of_lt ?_ hs
    rw [Nat.le_log2 (by omega)]
    exact Nat.le_trans (Nat.log2_self_le z) h1
theorem frac_1 {a : Int} : fracL a 1 = (a, 1) := by
  simp [fracL]
/-- small numbers -/
def Sm (a : Int) : Prop := a.natAbs < 2 ^ 200
theorem sm_log {a : Int} (h : Sm a) : a.natAbs.log2 < 1000 := by
  unfold Sm at h
  by_cases z : a.natAbs = 0
  · rw [z]; decide
  · exact Nat.lt_trans ((Nat.log2_lt z).mpr h) (by decide)
theorem sm_mul {a b : Int} (h : Sm a) (g : Sm b) : MulOk a b := by
  have := sm_log h
  have := sm_log g
  unfold MulOk
  omega
theorem sm_of {a : Int} (h : -(10 ^ 30) ≤ a) (g : a ≤ 10 ^ 30) : Sm a := by
  unfold Sm
  have e : (2 : Nat) ^ 200 = 1606938044258990275541962092341162602522202993782792835301376 := by decide
  rw [e]
  omega
instance {a : Int} : Decidable (Sm a) := inferInstanceAs (Decidable (a.natAbs < 2 ^ 200))
theorem it_tup {xs : List PV} : itS μ (.tup xs) = some xs := rfl
theorem frac_k : ∀ n : Fin 1001, 0 < (fracL n.val 1000).2 ∧ (fracL n.val 1000).2 ≤ 1000 ∧ 0 ≤ (fracL n.val 1000).1 ∧ (fracL n.val 1000).1 ≤ 1000 ∧ fracL (1000 * (fracL n.val 1000).1) (1 * (fracL n.val 1000).2) = ((n.val : Int), 1) := by decide +kernel
theorem frac_h {n : Int} (h0 : 0 ≤ n) (h1 : n ≤ 1000) : 0 < (fracL n 1000).2 ∧ (fracL n 1000).2 ≤ 1000 ∧ 0 ≤ (fracL n 1000).1 ∧ (fracL n 1000).1 ≤ 1000 ∧ fracL (1000 * (fracL n 1000).1) (1 * (fracL n 1000).2) = (n, 1) := by
  have := frac_k ⟨n.toNat, by omega⟩
  have e : ((n.toNat : Nat) : Int) = n := by omega
  simpa only [e] using this
end

structure Lot where
  (name owner : Str) (day w : Int) (tk : List (Int × Int))
structure Odr where
  (name owner : Str) (day least most price : Int) (lims : List (Option Int × Option Int))
structure Elv where
  (ms : List Str) (lots : List Lot) (odrs : List Odr) (own : Str) (cost : Int) (rooms : List Int) (st : Int)
def optP : Option Int → PV
  | none => .non
  | some i => .int i
abbrev limP (p : Option Int × Option Int) : PV := .tup [optP p.1, optP p.2]
abbrev lotP (l : Lot) : PV := .tup [.str l.name, .str l.owner, .int l.day, .int l.w, .tup (l.tk.map fr)]
abbrev odrP (o : Odr) : PV := .tup [.str o.name, .str o.owner, .int o.day, .int o.least, .int o.most, .int o.price, .tup (o.lims.map limP)]
abbrev dryP (e : Elv) : PV := .tup [.str e.own, .int e.cost, .tup (e.rooms.map .int)]
def fldsP (e : Elv) : List (Str × PV) := [("measures", .tup (e.ms.map .str)), ("lots", .tup (e.lots.map lotP)), ("orders", .tup (e.odrs.map odrP)), ("dryer", dryP e), ("storing", .int e.st)]
def isName (s : Str) : Prop := 1 ≤ s.length ∧ s.length ≤ 8 ∧ ∀ c ∈ s.cps.toList, 97 ≤ c ∧ c ≤ 122
def RtLim (p : Option Int × Option Int) : Prop := (∀ i, p.1 = some i → 0 ≤ i ∧ i ≤ 1000) ∧ (∀ i, p.2 = some i → 0 ≤ i ∧ i ≤ 1000) ∧ (∀ i j, p.1 = some i → p.2 = some j → i ≤ j)
structure RtLot (many days : Nat) (l : Lot) : Prop where
  name : isName l.name
  owner : isName l.owner
  day : 0 ≤ l.day ∧ l.day ≤ days - 1
  w : 1 ≤ l.w ∧ l.w ≤ 1000000
  tl : l.tk.length = many
  tk : ∀ p ∈ l.tk, 0 ≤ p.1 ∧ p.1 ≤ p.2 ∧ p.2 ≤ 1000
structure RtOdr (many days : Nat) (o : Odr) : Prop where
  name : isName o.name
  owner : isName o.owner
  day : 0 ≤ o.day ∧ o.day ≤ days - 1
  least : 0 ≤ o.least ∧ o.least ≤ o.most
  most : o.most ≤ 1000000
  price : -1000000 ≤ o.price ∧ o.price ≤ 1000000
  tl : o.lims.length = many
  lims : ∀ p ∈ o.lims, RtLim p
structure Right (e : Elv) : Prop where
  ms : 1 ≤ e.ms.length ∧ e.ms.length ≤ 3
  mn : ∀ m ∈ e.ms, isName m
  md : e.ms.Nodup
  own : isName e.own
  cost : 0 ≤ e.cost ∧ e.cost ≤ 1000000
  rl : 1 ≤ e.rooms.length ∧ e.rooms.length ≤ 20
  rooms : ∀ r ∈ e.rooms, 0 ≤ r ∧ r ≤ 1000000
  ll : e.lots.length ≤ 12
  lots : ∀ l ∈ e.lots, RtLot e.ms.length e.rooms.length l
  ln : (e.lots.map (·.name)).Nodup
  ol : e.odrs.length ≤ 8
  odrs : ∀ l ∈ e.odrs, RtOdr e.ms.length e.rooms.length l
  on : (e.odrs.map (·.name)).Nodup
  st : 0 ≤ e.st ∧ e.st ≤ 1000000
theorem letter_in {c : Nat} (h : 97 ≤ c) (g : c ≤ 122) : c ∈ ("abcdefghijklmnopqrstuvwxyz" : Str).cps.toList := by
  have : ∀ c : Fin 123, 97 ≤ c.val → c.val ∈ ("abcdefghijklmnopqrstuvwxyz" : Str).cps.toList := by decide +kernel
  exact this ⟨c, by omega⟩ h
section
variable {FT : Nat → Option FI} [B : Base FT] {k : Nat} {μ : PM} {P : Post} {X : XPost}
theorem comp_all {β : Type} {st : PM → Prop} {step : PV → PM → (Option PV → PM → Prop) → Prop} {g : β → PV} {items : List PV} (l : List β) (hi : items = l.map g) (hst : st μ)
    (hs : ∀ x ∈ l, ∀ Q : Option PV → PM → Prop, Q (some (.bl true)) μ → step (g x) μ Q) (h : P (.bl true) μ) : compW st step (fun acc μ' => bfW .all [.tmp acc] μ' P) items [] μ := by
  refine comp_m l (fun _ => .bl true) hi hst hs ?_
  show bfW .all [.tmp (l.map fun z => .bl ((fun _ => true) z))] μ P
  rw [f_allT]
  rw [show (l.all fun _ => true) = true from by simp]
  exact h
theorem sp_is_integer {i : Int} (p : P (.bl true) μ) : (CS2 FT (k + 2)).fn F.is_integer [.int i] μ P X := by
  refine fn_run B.is_integer rfl ?_
  unfold fi_is_integer
  decreasing_trivial_pre_omega
  exact rt_here p
theorem sp_is_within {i lo hi : Int} (p : P (.bl true) μ) (h : lo ≤ i) (g : i ≤ hi) : (CS2 FT (k + 3)).fn F.is_within [.int i, .int lo, .int hi] μ P X := by
  refine fn_run B.is_within rfl ?_
  unfold fi_is_within
  decreasing_trivial_pre_omega
  refine sp_is_integer ?_
  decreasing_trivial_pre_omega
  simp only [decide_eq_true h, decide_eq_true g, if_true]
  exact rt_here p
theorem sp_is_name {s : Str} (p : P (.bl true) μ) (h : isName s) : (CS2 FT (k + 2)).fn F.is_name [.str s] μ P X := by
  refine fn_run B.is_name rfl ?_
  unfold fi_is_name
  obtain ⟨h1, h2, h3⟩ := h
  try decreasing_with simp only [↓e_comp, ↓c_inss]
  simp only [decide_eq_true (show (1 : Int) ≤ (s.length : Int) by omega), decide_eq_true (show (s.length : Int) ≤ 8 by omega)]
  decreasing_trivial_pre_omega
  refine ⟨strItems s, rfl, comp_all (l := s.cps.toList) rfl rfl (fun c hc Q q => ?_) (rt_here p)⟩
  refine ⟨c, rfl, ?_⟩
  decreasing_trivial_pre_omega
  rw [decide_eq_true (letter_in (h3 c hc).1 (h3 c hc).2)]
  exact q
theorem sp_is_tuple_of {xs : List PV} {n : Int} (p : P (.bl (decide ((xs.length : Int) = n))) μ) : (CS2 FT (k + 2)).fn F.is_tuple_of [.tup xs, .int n] μ P X := by
  refine fn_run B.is_tuple_of rfl ?_
  unfold fi_is_tuple_of
  decreasing_trivial_pre_omega
  exact rt_here p
theorem sp_is_tuple_ofT {xs : List PV} {n : Int} (p : P (.bl true) μ) (h : (xs.length : Int) = n) : (CS2 FT (k + 2)).fn F.is_tuple_of [.tup xs, .int n] μ P X := sp_is_tuple_of (by rw [decide_eq_true h]; exact p)
theorem sp_is_pair {a b m : Int} (p : P (.bl true) μ) (h0 : 0 ≤ a) (h1 : a ≤ b) (h2 : b ≤ m) : (CS2 FT (k + 4)).fn F.is_pair [.tup [.int a, .int b], .int m] μ P X := by
  refine fn_run B.is_pair rfl ?_
  unfold fi_is_pair
  decreasing_trivial_pre_omega
  refine sp_is_tuple_ofT ?_ rfl
  decreasing_trivial_pre_omega
  refine sp_is_within ?_ h0 (Int.le_trans h1 h2)
  decreasing_trivial_pre_omega
  refine sp_is_within ?_ h1 h2
  exact rt_here p
theorem sp_is_ticket {tk : List (Int × Int)} {n : Int} (p : P (.bl true) μ) (hl : (tk.length : Int) = n) (h : ∀ p ∈ tk, 0 ≤ p.1 ∧ p.1 ≤ p.2 ∧ p.2 ≤ 1000) : (CS2 FT (k + 5)).fn F.is_ticket [.tup (tk.map fr), .int n] μ P X := by
  refine fn_run B.is_ticket rfl ?_
  unfold fi_is_ticket
  try decreasing_with simp only [↓e_comp]
  refine sp_is_tuple_ofT ?_ (by simpa using hl)
  try decreasing_with simp only [↓e_comp]
  refine ⟨_, rfl, comp_all (l := tk) rfl rfl (fun c hc Q q => ?_) (rt_here p)⟩
  decreasing_trivial_pre_omega
  obtain ⟨h0, h1, h2⟩ := h c hc
  exact sp_is_pair q h0 h1 h2
theorem sp_is_limit {l : Option Int × Option Int} (p : P (.bl true) μ) (h : RtLim l) : (CS2 FT (k + 4)).fn F.is_limit [limP l] μ P X := by
  refine fn_run B.is_limit rfl ?_
  unfold fi_is_limit
  obtain ⟨l, r⟩ := l
  obtain ⟨h1, h2, h3⟩ := h
  try decreasing_with simp only [↓e_comp]
  refine sp_is_tuple_ofT ?_ rfl
  try decreasing_with simp only [↓e_comp]
  refine ⟨_, rfl, comp_all (l := [l, r]) (g := optP) rfl rfl (fun c hc Q q => ?_) ?_⟩
  · cases c with
    | none => simp only [optP, startP, List.map_cons, List.map_nil, List.length_cons, List.length_nil, List.replicate_succ, List.replicate_zero, List.append_nil, List.cons_append, List.nil_append, Nat.reduceAdd, Nat.reduceSub, Nat.reduceLeDiff, List.zip_cons_cons, List.zip_nil_right, List.foldl_cons, List.foldl_nil, List.set_cons_zero, List.set_cons_succ, true_and, and_true, if_true, if_false, Bool.false_eq_true, Bool.not_true, Bool.not_false, Bool.true_eq_false, wipeP, nc, decide_true, decide_false, Int.reduceEq, Int.reduceLE, Int.reduceLT, Int.reduceNeg, Int.reduceSub, Int.reduceAdd, Int.reduceMul, Nat.reduceLT, eq_self, ↓getV_0, ↓getV_s, ↓getT_0, ↓getT_s, ↓ss_cons, ↓ss_nil, ↓s_par', ↓s_iff', ↓s_set', ↓s_ret', ↓s_retN', ↓s_ex', ↓s_brk', ↓s_cont', ↓s_pass', ↓s_setT', ↓es_cons, ↓es_nil, ↓rs_cons, ↓rs_nil, ↓e_var, ↓e_cst, ↓e_gc, ↓e_cmp, ↓e_chn, ↓e_not, ↓e_and, ↓e_or, ↓e_ite, ↓e_neg, ↓e_call, ↓e_bin, ↓e_tup', ↓e_lst', ↓m_tmp, ↓e_bf, ↓e_idx, ↓e_isi, ↓e_fld, ↓e_meth, ↓e_new, ↓e_bm, ↓e_dct, ↓e_lamc, ↓s_raise0, ↓s_try', ↓c_lt, ↓c_le, ↓c_gt, ↓c_ge, ↓c_eq, ↓c_ne, ↓c_isb, ↓c_isnb, ↓c_is, ↓c_isn, ↓c_eqb, ↓c_neb, ↓c_eqs, ↓c_nes, ↓nn_int, ↓nn_bl, ↓nn_str, ↓nn_tup, ↓nn_ref, ↓nn_non, ↓ex_bl, ↓ex_int, ↓b_add, ↓b_sub, ↓b_mul, ↓b_mod, ↓b_fdiv, ↓f_abs, ↓f_int, ↓f_lenT, ↓f_lenS, ↓f_tupT, ↓f_tupP, ↓f_min2, ↓f_min4, ↓f_max2, ↓i_tup, ↓m_int, ↓m_bl, ↓m_non, ↓m_str, ↓m_tup, ↓m_ref, ↓m_rp, ↓cs_nil, ↓cs_one, ↓a_nm, ↓a_tup, ↓as_nil, ↓as_cons, ↓up_up, ↓is_int_int, ↓is_int_bool, ↓is_int_tuple, ↓is_int_list, ↓is_int_str, ↓is_int_tuple_list, ↓is_int_dict, ↓is_int_int_str, ↓is_int_list_tuple, ↓is_int_own, ↓is_bool_int, ↓is_bool_bool, ↓is_bool_tuple, ↓is_bool_list, ↓is_bool_str, ↓is_bool_tuple_list, ↓is_bool_dict, ↓is_bool_int_str, ↓is_bool_list_tuple, ↓is_bool_own, ↓is_str_int, ↓is_str_bool, ↓is_str_tuple, ↓is_str_list, ↓is_str_str, ↓is_str_tuple_list, ↓is_str_dict, ↓is_str_int_str, ↓is_str_list_tuple, ↓is_str_own, ↓is_tuple_int, ↓is_tuple_bool, ↓is_tuple_tuple, ↓is_tuple_list, ↓is_tuple_str, ↓is_tuple_tuple_list, ↓is_tuple_dict, ↓is_tuple_int_str, ↓is_tuple_list_tuple, ↓is_tuple_own, ↓is_NoneType_int, ↓is_NoneType_bool, ↓is_NoneType_tuple, ↓is_NoneType_list, ↓is_NoneType_str, ↓is_NoneType_tuple_list, ↓is_NoneType_dict, ↓is_NoneType_int_str, ↓is_NoneType_list_tuple, ↓is_NoneType_own]; exact q
    | some i =>
      have : 0 ≤ i ∧ i ≤ 1000 := by
        simp only [List.mem_cons, List.not_mem_nil, or_false] at hc
        rcases hc with z | z
        · exact h1 i z.symm
        · exact h2 i z.symm
      try decreasing_with simp only [optP]
      exact sp_is_within q this.1 this.2
  · decreasing_trivial_pre_omega
    cases l with
    | none => simp only [optP, startP, List.map_cons, List.map_nil, List.length_cons, List.length_nil, List.replicate_succ, List.replicate_zero, List.append_nil, List.cons_append, List.nil_append, Nat.reduceAdd, Nat.reduceSub, Nat.reduceLeDiff, List.zip_cons_cons, List.zip_nil_right, List.foldl_cons, List.foldl_nil, List.set_cons_zero, List.set_cons_succ, true_and, and_true, if_true, if_false, Bool.false_eq_true, Bool.not_true, Bool.not_false, Bool.true_eq_false, wipeP, nc, decide_true, decide_false, Int.reduceEq, Int.reduceLE, Int.reduceLT, Int.reduceNeg, Int.reduceSub, Int.reduceAdd, Int.reduceMul, Nat.reduceLT, eq_self, ↓getV_0, ↓getV_s, ↓getT_0, ↓getT_s, ↓ss_cons, ↓ss_nil, ↓s_par', ↓s_iff', ↓s_set', ↓s_ret', ↓s_retN', ↓s_ex', ↓s_brk', ↓s_cont', ↓s_pass', ↓s_setT', ↓es_cons, ↓es_nil, ↓rs_cons, ↓rs_nil, ↓e_var, ↓e_cst, ↓e_gc, ↓e_cmp, ↓e_chn, ↓e_not, ↓e_and, ↓e_or, ↓e_ite, ↓e_neg, ↓e_call, ↓e_bin, ↓e_tup', ↓e_lst', ↓m_tmp, ↓e_bf, ↓e_idx, ↓e_isi, ↓e_fld, ↓e_meth, ↓e_new, ↓e_bm, ↓e_dct, ↓e_lamc, ↓s_raise0, ↓s_try', ↓c_lt, ↓c_le, ↓c_gt, ↓c_ge, ↓c_eq, ↓c_ne, ↓c_isb, ↓c_isnb, ↓c_is, ↓c_isn, ↓c_eqb, ↓c_neb, ↓c_eqs, ↓c_nes, ↓nn_int, ↓nn_bl, ↓nn_str, ↓nn_tup, ↓nn_ref, ↓nn_non, ↓ex_bl, ↓ex_int, ↓b_add, ↓b_sub, ↓b_mul, ↓b_mod, ↓b_fdiv, ↓f_abs, ↓f_int, ↓f_lenT, ↓f_lenS, ↓f_tupT, ↓f_tupP, ↓f_min2, ↓f_min4, ↓f_max2, ↓i_tup, ↓m_int, ↓m_bl, ↓m_non, ↓m_str, ↓m_tup, ↓m_ref, ↓m_rp, ↓cs_nil, ↓cs_one, ↓a_nm, ↓a_tup, ↓as_nil, ↓as_cons, ↓up_up, ↓is_int_int, ↓is_int_bool, ↓is_int_tuple, ↓is_int_list, ↓is_int_str, ↓is_int_tuple_list, ↓is_int_dict, ↓is_int_int_str, ↓is_int_list_tuple, ↓is_int_own, ↓is_bool_int, ↓is_bool_bool, ↓is_bool_tuple, ↓is_bool_list, ↓is_bool_str, ↓is_bool_tuple_list, ↓is_bool_dict, ↓is_bool_int_str, ↓is_bool_list_tuple, ↓is_bool_own, ↓is_str_int, ↓is_str_bool, ↓is_str_tuple, ↓is_str_list, ↓is_str_str, ↓is_str_tuple_list, ↓is_str_dict, ↓is_str_int_str, ↓is_str_list_tuple, ↓is_str_own, ↓is_tuple_int, ↓is_tuple_bool, ↓is_tuple_tuple, ↓is_tuple_list, ↓is_tuple_str, ↓is_tuple_tuple_list, ↓is_tuple_dict, ↓is_tuple_int_str, ↓is_tuple_list_tuple, ↓is_tuple_own, ↓is_NoneType_int, ↓is_NoneType_bool, ↓is_NoneType_tuple, ↓is_NoneType_list, ↓is_NoneType_str, ↓is_NoneType_tuple_list, ↓is_NoneType_dict, ↓is_NoneType_int_str, ↓is_NoneType_list_tuple, ↓is_NoneType_own]; exact rt_here p
    | some i =>
      cases r with
      | none => simp only [optP, startP, List.map_cons, List.map_nil, List.length_cons, List.length_nil, List.replicate_succ, List.replicate_zero, List.append_nil, List.cons_append, List.nil_append, Nat.reduceAdd, Nat.reduceSub, Nat.reduceLeDiff, List.zip_cons_cons, List.zip_nil_right, List.foldl_cons, List.foldl_nil, List.set_cons_zero, List.set_cons_succ, true_and, and_true, if_true, if_false, Bool.false_eq_true, Bool.not_true, Bool.not_false, Bool.true_eq_false, wipeP, nc, decide_true, decide_false, Int.reduceEq, Int.reduceLE, Int.reduceLT, Int.reduceNeg, Int.reduceSub, Int.reduceAdd, Int.reduceMul, Nat.reduceLT, eq_self, ↓getV_0, ↓getV_s, ↓getT_0, ↓getT_s, ↓ss_cons, ↓ss_nil, ↓s_par', ↓s_iff', ↓s_set', ↓s_ret', ↓s_retN', ↓s_ex', ↓s_brk', ↓s_cont', ↓s_pass', ↓s_setT', ↓es_cons, ↓es_nil, ↓rs_cons, ↓rs_nil, ↓e_var, ↓e_cst, ↓e_gc, ↓e_cmp, ↓e_chn, ↓e_not, ↓e_and, ↓e_or, ↓e_ite, ↓e_neg, ↓e_call, ↓e_bin, ↓e_tup', ↓e_lst', ↓m_tmp, ↓e_bf, ↓e_idx, ↓e_isi, ↓e_fld, ↓e_meth, ↓e_new, ↓e_bm, ↓e_dct, ↓e_lamc, ↓s_raise0, ↓s_try', ↓c_lt, ↓c_le, ↓c_gt, ↓c_ge, ↓c_eq, ↓c_ne, ↓c_isb, ↓c_isnb, ↓c_is, ↓c_isn, ↓c_eqb, ↓c_neb, ↓c_eqs, ↓c_nes, ↓nn_int, ↓nn_bl, ↓nn_str, ↓nn_tup, ↓nn_ref, ↓nn_non, ↓ex_bl, ↓ex_int, ↓b_add, ↓b_sub, ↓b_mul, ↓b_mod, ↓b_fdiv, ↓f_abs, ↓f_int, ↓f_lenT, ↓f_lenS, ↓f_tupT, ↓f_tupP, ↓f_min2, ↓f_min4, ↓f_max2, ↓i_tup, ↓m_int, ↓m_bl, ↓m_non, ↓m_str, ↓m_tup, ↓m_ref, ↓m_rp, ↓cs_nil, ↓cs_one, ↓a_nm, ↓a_tup, ↓as_nil, ↓as_cons, ↓up_up, ↓is_int_int, ↓is_int_bool, ↓is_int_tuple, ↓is_int_list, ↓is_int_str, ↓is_int_tuple_list, ↓is_int_dict, ↓is_int_int_str, ↓is_int_list_tuple, ↓is_int_own, ↓is_bool_int, ↓is_bool_bool, ↓is_bool_tuple, ↓is_bool_list, ↓is_bool_str, ↓is_bool_tuple_list, ↓is_bool_dict, ↓is_bool_int_str, ↓is_bool_list_tuple, ↓is_bool_own, ↓is_str_int, ↓is_str_bool, ↓is_str_tuple, ↓is_str_list, ↓is_str_str, ↓is_str_tuple_list, ↓is_str_dict, ↓is_str_int_str, ↓is_str_list_tuple, ↓is_str_own, ↓is_tuple_int, ↓is_tuple_bool, ↓is_tuple_tuple, ↓is_tuple_list, ↓is_tuple_str, ↓is_tuple_tuple_list, ↓is_tuple_dict, ↓is_tuple_int_str, ↓is_tuple_list_tuple, ↓is_tuple_own, ↓is_NoneType_int, ↓is_NoneType_bool, ↓is_NoneType_tuple, ↓is_NoneType_list, ↓is_NoneType_str, ↓is_NoneType_tuple_list, ↓is_NoneType_dict, ↓is_NoneType_int_str, ↓is_NoneType_list_tuple, ↓is_NoneType_own]; exact rt_here p
      | some j =>
        try decreasing_with simp only [optP]
        rw [decide_eq_true (h3 i j rfl rfl)]
        exact rt_here p
theorem sp_are_limits {ls : List (Option Int × Option Int)} {n : Int} (p : P (.bl true) μ) (hl : (ls.length : Int) = n) (h : ∀ p ∈ ls, RtLim p) : (CS2 FT (k + 5)).fn F.are_limits [.tup (ls.map limP), .int n] μ P X := by
  refine fn_run B.are_limits rfl ?_
  unfold fi_are_limits
  try decreasing_with simp only [↓e_comp]
  refine sp_is_tuple_ofT ?_ (by simpa using hl)
  try decreasing_with simp only [↓e_comp]
  refine ⟨_, rfl, comp_all (l := ls) rfl rfl (fun c hc Q q => ?_) (rt_here p)⟩
  decreasing_trivial_pre_omega
  exact sp_is_limit q (h c hc)
theorem firsts_nodup {ss : List Str} (h : ss.Nodup) : (firsts ss).length = ss.length := by
  have key : ∀ (r acc : List Str), (∀ x ∈ r, x ∉ acc) → r.Nodup → (r.foldl (fun acc x => if x ∈ acc then acc else acc ++ [x]) acc).length = acc.length + r.length := by
    intro r
    induction r with
    | nil => intro acc _ _; simp
    | cons x r ih =>
      intro acc h1 h2
      rw [List.foldl_cons, if_neg (h1 x List.mem_cons_self)]
      rw [List.nodup_cons] at h2
      rw [ih (acc ++ [x]) (fun y hy => ?_) h2.2]
      · simp; omega
      · rw [List.mem_append, List.mem_singleton]
        rintro (z | z)
        · exact h1 y (List.mem_cons_of_mem _ hy) z
        · subst z; exact h2.1 hy
  simpa [firsts] using key ss [] (fun _ _ => List.not_mem_nil) h
theorem sp_is_measures {ms : List Str} (p : P (.bl true) μ) (h0 : 1 ≤ ms.length) (h1 : ms.length ≤ 3) (hn : ∀ m ∈ ms, isName m) (hd : ms.Nodup) : (CS2 FT (k + 3)).fn F.is_measures [.tup (ms.map .str)] μ P X := by
  refine fn_run B.is_measures rfl ?_
  unfold fi_is_measures
  try decreasing_with simp only [↓e_comp, ↓e_lset, List.length_map]
  simp only [decide_eq_true (show (1 : Int) ≤ (ms.length : Int) by omega), decide_eq_true (show (ms.length : Int) ≤ 3 by omega)]
  decreasing_trivial_pre_omega
  refine ⟨_, rfl, comp_all (l := ms) rfl rfl (fun c hc Q q => ?_) ?_⟩
  · decreasing_trivial_pre_omega
    exact sp_is_name q (hn c hc)
  · decreasing_trivial_pre_omega
    refine ⟨_, ms, rfl, ?_, by omega, ?_⟩
    · have := allOf_map (f := strOf) (g := PV.str) (h := id) (fun _ => rfl) ms
      simpa using this
    · try decreasing_with simp only [List.length_map]
      rw [firsts_nodup hd]
      simp only [decide_true]
      exact rt_here p
theorem sp_is_dryer {e : Elv} (p : P (.bl true) μ) (h : Right e) : (CS2 FT (k + 4)).fn F.is_dryer [dryP e] μ P X := by
  refine fn_run B.is_dryer rfl ?_
  unfold fi_is_dryer
  try decreasing_with simp only [↓e_comp]
  refine sp_is_tuple_ofT ?_ rfl
  decreasing_trivial_pre_omega
  refine sp_is_name ?_ h.own
  decreasing_trivial_pre_omega
  refine sp_is_within ?_ h.cost.1 h.cost.2
  try decreasing_with simp only [↓e_comp, List.length_map]
  have := h.rl
  simp only [decide_eq_true (show (1 : Int) ≤ (e.rooms.length : Int) by omega), decide_eq_true (show (e.rooms.length : Int) ≤ 20 by omega)]
  decreasing_trivial_pre_omega
  refine ⟨_, rfl, comp_all (l := e.rooms) rfl rfl (fun c hc Q q => ?_) (rt_here p)⟩
  decreasing_trivial_pre_omega
  exact sp_is_within q (h.rooms c hc).1 (h.rooms c hc).2
theorem sp_is_lot {l : Lot} {many days : Nat} (p : P (.bl true) μ) (h : RtLot many days l) : (CS2 FT (k + 6)).fn F.is_lot [.int many, .int days, lotP l] μ P X := by
  refine fn_run B.is_lot rfl ?_
  unfold fi_is_lot
  decreasing_trivial_pre_omega
  refine sp_is_tuple_ofT ?_ rfl
  decreasing_trivial_pre_omega
  refine sp_is_name ?_ h.name
  decreasing_trivial_pre_omega
  refine sp_is_name ?_ h.owner
  decreasing_trivial_pre_omega
  refine sp_is_within ?_ h.day.1 h.day.2
  decreasing_trivial_pre_omega
  refine sp_is_within ?_ h.w.1 h.w.2
  decreasing_trivial_pre_omega
  refine sp_is_ticket (rt_here p) ?_ h.tk
  rw [h.tl]
theorem sp_is_order {l : Odr} {many days : Nat} (p : P (.bl true) μ) (h : RtOdr many days l) : (CS2 FT (k + 6)).fn F.is_order [.int many, .int days, odrP l] μ P X := by
  refine fn_run B.is_order rfl ?_
  unfold fi_is_order
  decreasing_trivial_pre_omega
  refine sp_is_tuple_ofT ?_ rfl
  decreasing_trivial_pre_omega
  refine sp_is_name ?_ h.name
  decreasing_trivial_pre_omega
  refine sp_is_name ?_ h.owner
  decreasing_trivial_pre_omega
  refine sp_is_within ?_ h.day.1 h.day.2
  decreasing_trivial_pre_omega
  refine sp_is_within ?_ (Int.le_trans h.least.1 h.least.2) h.most
  decreasing_trivial_pre_omega
  refine sp_is_within ?_ h.least.1 h.least.2
  decreasing_trivial_pre_omega
  refine sp_is_within ?_ h.price.1 h.price.2
  decreasing_trivial_pre_omega
  refine sp_are_limits (rt_here p) ?_ h.lims
  rw [h.tl]
theorem any_str {z : Str} {ss : List Str} : ((ss.map PV.str).any fun y => eqP y (.str z)) = decide (z ∈ ss) := by
  rw [Bool.eq_iff_iff]
  simp only [List.any_eq_true, List.mem_map, decide_eq_true_eq]
  constructor
  · rintro ⟨_, ⟨s, hs, rfl⟩, e⟩
    have : s = z := by simpa [eqP] using e
    rw [← this]; exact hs
  · intro h
    exact ⟨_, ⟨z, h, rfl⟩, by simp [eqP]⟩
theorem c_inL {z : Str} {p : Addr} {ss : List Str} (h : μ p = some (.lst (ss.map .str))) (q : P (.bl (decide (z ∈ ss))) μ) : cmpW .isin (.str z) (.ref p) μ P := by
  show ∃ ys, seqOf μ (.ref p) = some ys ∧ flatP (.str z) = true ∧ ys.all flatP = true ∧ P (.bl (ys.any fun y => eqP y (.str z))) μ
  refine ⟨ss.map .str, by simp [seqOf, h], rfl, ?_, by rw [any_str]; exact q⟩
  rw [List.all_map, List.all_eq_true]
  exact fun _ _ => rfl
/-- a walk over an enumerated mapped list -/
theorem walk_e {β : Type} {st : PM → Prop} {step : PV → PE_ → PM → (PE_ → PM → Prop) → Prop} {nx : PE_ → PM → Prop} {ρ : PE_} {g : β → PV} {items : List PV} (l : List β) (hi : items = (List.range (l.map g).length).zipWith (fun (i : Nat) v => PV.tup [.int i, v]) (l.map g)) (I : List β → PE_ → PM → Prop) (h0 : I [] ρ μ) (hst : ∀ pre ρ μ, I pre ρ μ → st μ)
    (hs : ∀ pre x post ρ μ (Q : PE_ → PM → Prop), l = pre ++ x :: post → I pre ρ μ → (∀ ρ' μ', I (pre ++ [x]) ρ' μ' → Q ρ' μ') → step (.tup [.int pre.length, g x]) ρ μ Q) (hn : ∀ ρ μ, I l ρ μ → nx ρ μ) : walkW st step nx items ρ μ := by
  subst hi
  rw [List.range_eq_range']
  have key : ∀ (post pre : List β) (ρ : PE_) (μ : PM), l = pre ++ post → I pre ρ μ → walkW st step nx ((List.range' pre.length (post.map g).length).zipWith (fun (i : Nat) v => PV.tup [.int i, v]) (post.map g)) ρ μ := by
    intro post
    induction post with
    | nil =>
      intro pre ρ μ e i
      rw [List.append_nil] at e
      subst e
      exact ⟨hst _ _ _ i, hn _ _ i⟩
    | cons x post ih =>
      intro pre ρ μ e i
      refine ⟨hst _ _ _ i, hs pre x post ρ μ _ e i fun ρ' μ' i' => ?_⟩
      have := ih (pre ++ [x]) ρ' μ' (by rw [e]; simp) i'
      simpa using this
  exact key l [] ρ μ rfl h0
theorem sp_check_lots {ls : List Lot} {many days : Nat} (p : ∀ μ', Sub μ μ' → P .non μ') (hl : ls.length ≤ 12) (h : ∀ l ∈ ls, RtLot many days l) (hn : (ls.map (·.name)).Nodup) : (CS2 FT (k + 7)).fn F.check_lots [.int many, .int days, .tup (ls.map lotP)] μ P X := by
  refine fn_run B.check_lots rfl ?_
  unfold fi_check_lots
  try decreasing_with simp only [↓s_loop']
  intro a ha
  refine ⟨_, rfl, walk_e ls rfl (I := fun pre ρ μ' => (∃ x y, ρ = [some (.int many), some (.int days), some (.tup (ls.map lotP)), some (.ref a), x, y]) ∧ μ' = up μ a (.lst ((pre.map (·.name)).map .str))) ?_ ?_ ?_ ?_⟩
  · exact ⟨⟨_, _, rfl⟩, rfl⟩
  · rintro _ _ _ ⟨_, rfl⟩; rfl
  · rintro pre l post ρ μ' Q e ⟨⟨x, y, rfl⟩, rfl⟩ hQ
    decreasing_trivial_pre_omega
    have hm : l ∈ ls := by rw [e]; simp
    have hp : pre.length < ls.length := by rw [e]; simp
    have hni : l.name ∉ pre.map (·.name) := by
      rw [e, List.map_append, List.nodup_append] at hn
      intro z
      exact hn.2.2 _ z _ (by simp) rfl
    simp only [decide_eq_false (show ¬ (12 : Int) ≤ (pre.length : Int) by omega)]
    decreasing_trivial_pre_omega
    refine sp_is_lot ?_ (h l hm)
    decreasing_trivial_pre_omega
    refine c_inL up_same ?_
    rw [decide_eq_false hni]
    decreasing_trivial_pre_omega
    refine ⟨bt_lst up_same rfl, ap_lst up_same ?_ ?_⟩
    · simp; omega
    · rw [up_up]
      refine hQ _ _ ⟨⟨_, _, rfl⟩, ?_⟩
      simp
  · rintro ρ μ' ⟨⟨x, y, rfl⟩, rfl⟩
    decreasing_trivial_pre_omega
    exact p _ (Sub.new ha)
theorem sp_check_orders {ls : List Odr} {many days : Nat} (p : ∀ μ', Sub μ μ' → P .non μ') (hl : ls.length ≤ 8) (h : ∀ l ∈ ls, RtOdr many days l) (hn : (ls.map (·.name)).Nodup) : (CS2 FT (k + 7)).fn F.check_orders [.int many, .int days, .tup (ls.map odrP)] μ P X := by
  refine fn_run B.check_orders rfl ?_
  unfold fi_check_orders
  try decreasing_with simp only [↓s_loop']
  intro a ha
  refine ⟨_, rfl, walk_e ls rfl (I := fun pre ρ μ' => (∃ x y, ρ = [some (.int many), some (.int days), some (.tup (ls.map odrP)), some (.ref a), x, y]) ∧ μ' = up μ a (.lst ((pre.map (·.name)).map .str))) ?_ ?_ ?_ ?_⟩
  · exact ⟨⟨_, _, rfl⟩, rfl⟩
  · rintro _ _ _ ⟨_, rfl⟩; rfl
  · rintro pre l post ρ μ' Q e ⟨⟨x, y, rfl⟩, rfl⟩ hQ
    decreasing_trivial_pre_omega
    have hm : l ∈ ls := by rw [e]; simp
    have hp : pre.length < ls.length := by rw [e]; simp
    have hni : l.name ∉ pre.map (·.name) := by
      rw [e, List.map_append, List.nodup_append] at hn
      intro z
      exact hn.2.2 _ z _ (by simp) rfl
    simp only [decide_eq_false (show ¬ (8 : Int) ≤ (pre.length : Int) by omega)]
    decreasing_trivial_pre_omega
    refine sp_is_order ?_ (h l hm)
    decreasing_trivial_pre_omega
    refine c_inL up_same ?_
    rw [decide_eq_false hni]
    decreasing_trivial_pre_omega
    refine ⟨bt_lst up_same rfl, ap_lst up_same ?_ ?_⟩
    · simp; omega
    · rw [up_up]
      refine hQ _ _ ⟨⟨_, _, rfl⟩, ?_⟩
      simp
  · rintro ρ μ' ⟨⟨x, y, rfl⟩, rfl⟩
    decreasing_trivial_pre_omega
    exact p _ (Sub.new ha)
theorem putP_lt {f : Str} {v : PV} {n : Nat} : ∀ {fs : List (Str × PV)}, fs.length < n → (putP f v fs).length < n + 1
  | [], h => by simp [putP]; omega
  | p :: r, h => by
    unfold putP
    split
    · simp at h ⊢; omega
    · have : r.length < n - 1 := by simp at h; omega
      have := putP_lt (f := f) (v := v) this
      simp at h ⊢; omega
theorem at_step {q f : Str} {p : Addr} {fs : List (Str × PV)} {v : PV} {R : PM → Prop} (h : μ p = some (.ins q fs)) (hl : fs.length < 1000) (n : R (up μ p (.ins q (putP f v fs)))) : ∃ a fs', PV.ref p = .ref a ∧ μ a = some (.ins q fs') ∧ fs'.length < 1000 ∧ R (up μ a (.ins q (putP f v fs'))) := ⟨p, fs, rfl, h, hl, n⟩
theorem sub_up {μ' : PM} {a : Addr} {o o' : PO} (s : Sub (up μ a o) μ') : Sub (up μ a o') (up μ' a o') := fun z q e => by
  by_cases h : z = a
  · subst h; rw [up_same] at e ⊢; exact e
  · rw [up_ne h] at e ⊢
    exact s z q (by rw [up_ne h]; exact e)
/-- an elevator of right parts is made -/
theorem sp_newE {e : Elv} (h : Right e) {a : Addr} (p : ∀ μ', Sub (up μ a (.ins "Elevator" (fldsP e))) μ' → P .non μ') :
    (CS2 FT (k + 9)).mk F.Elevator___init__ [.ref a, .tup (e.ms.map .str), .tup (e.lots.map lotP), .tup (e.odrs.map odrP), dryP e, .int e.st] (up μ a (.ins "Elevator" [])) P X := by
  show (CS2 FT (k + 6 + 2)).fn _ _ _ P X
  refine fn_run B.Elevator___init__ rfl ?_
  unfold fi_Elevator___init__
  try decreasing_with simp only [↓s_att']
  refine sp_is_measures ?_ h.ms.1 h.ms.2 h.mn h.md
  decreasing_trivial_pre_omega
  refine sp_is_dryer ?_ h
  try decreasing_with simp only [List.length_map]
  refine sp_check_lots (fun μ1 s1 => ?_) h.ll h.lots h.ln
  try decreasing_with simp only [List.length_map]
  refine sp_check_orders (fun μ2 s2 => ?_) h.ol h.odrs h.on
  decreasing_trivial_pre_omega
  refine sp_is_within ?_ h.st.1 h.st.2
  try decreasing_with simp only [↓s_att']
  have i2 : μ2 a = some (.ins "Elevator" []) := s2 _ _ (s1 _ _ up_same)
  refine ⟨a, _, rfl, i2, Nat.lt_of_lt_of_le (Nat.zero_lt_one) (by decide), a, _, rfl, up_same, Nat.lt_of_lt_of_le (putP_lt (Nat.zero_lt_one)) (by decide), a, _, rfl, up_same, Nat.lt_of_lt_of_le (putP_lt (putP_lt (Nat.zero_lt_one))) (by decide), a, _, rfl, up_same, Nat.lt_of_lt_of_le (putP_lt (putP_lt (putP_lt (Nat.zero_lt_one)))) (by decide), a, _, rfl, up_same, Nat.lt_of_lt_of_le (putP_lt (putP_lt (putP_lt (putP_lt (Nat.zero_lt_one))))) (by decide), ?_⟩
  simp only [up_up]
  refine p _ ?_
  exact sub_up (Sub.trans s1 s2)
end

/-- plain data no deeper than n -/
def Pl : Nat → PV → Prop
  | 0, _ => False
  | n + 1, v => match v with
    | .non => True
    | .bl _ => True
    | .int _ => True
    | .str x => PyData.strOk x = true
    | .tup xs => ∀ x ∈ xs, Pl n x
    | _ => False
theorem Pl.nt {n : Nat} {v : PV} (h : Pl n v) : NT v := fun xs e => by
  subst e
  cases n <;> exact h
theorem pl_toD {μ : PM} : ∀ (n : Nat) (v : PV), Pl n v → ∃ d, toD μ v = some d ∧ d.canLay0 = true ∧ d.depth ≤ n
  | 0, _, h => h.elim
  | n + 1, v, h => by
    have key : ∀ xs : List PV, (∀ x ∈ xs, Pl n x) → ∃ ds, toDs μ xs = some ds ∧ PyData.canLayAll0 ds = true ∧ PyData.depthAll ds ≤ n := by
      intro xs
      induction xs with
      | nil => intro _; exact ⟨[], rfl, rfl, Nat.zero_le _⟩
      | cons x xs ih =>
        intro hx
        obtain ⟨d, e1, e2, e3⟩   := pl_toD (μ := μ) n x (hx x List.mem_cons_self)
        obtain ⟨ds, f1, f2, f3⟩ := ih fun y hy => hx y (List.mem_cons_of_mem _ hy)
        refine ⟨d :: ds, by simp [toDs, e1, f1], by simp [PyData.canLayAll0, e2, f2], ?_⟩
        show max d.depth (PyData.depthAll ds) ≤ n
        omega
    cases v with
    | non => exact ⟨_, rfl, rfl, Nat.zero_le _⟩
    | bl b => exact ⟨_, rfl, rfl, Nat.zero_le _⟩
    | int i => exact ⟨_, rfl, rfl, Nat.zero_le _⟩
    | str x => exact ⟨_, rfl, h, Nat.zero_le _⟩
    | tup xs =>
      obtain ⟨ds, e1, e2, e3⟩ := key xs h
      refine ⟨.tuple ds, by simp [toD, e1], e2, ?_⟩
      show PyData.depthAll ds + 1 ≤ n + 1
      omega
    | _ => exact h.elim
theorem strOk_name {s : Str} (h : isName s) : PyData.strOk s = true := by
  unfold PyData.strOk
  rw [Array.all_eq_true_iff_forall_mem]
  intro c hc
  have := h.2.2 c (by simpa using hc)
  simp; omega
section
variable {FT : Nat → Option FI} [B : Base FT] {k : Nat} {μ : PM} {P : Post} {X : XPost} {a : Addr}
theorem c_eqT {n : Nat} {xs : List PV} (h : Pl n (.tup xs)) (hn : n ≤ 64) (p : P (.bl true) μ) : cmpW .eq (.tup xs) (.tup xs) μ P := by
  obtain ⟨d, e1, e2, e3⟩ := pl_toD (μ := μ) n _ h
  have e : toDl μ (.tup xs) = some d := by unfold toDl; rw [e1]
  have sh : SeqAt.shaped d = true := by
    unfold SeqAt.shaped
    rw [e2, decide_eq_true (by omega)]; rfl
  refine ⟨d, d, e, e, sh, sh, ?_⟩
  rw [PySem.SeqAt.eqv_refl d e2]
  exact p
theorem c_neT {n : Nat} {xs : List PV} (h : Pl n (.tup xs)) (hn : n ≤ 64) (p : P (.bl false) μ) : cmpW .ne (.tup xs) (.tup xs) μ P := by
  obtain ⟨d, e1, e2, e3⟩ := pl_toD (μ := μ) n _ h
  have e : toDl μ (.tup xs) = some d := by unfold toDl; rw [e1]
  have sh : SeqAt.shaped d = true := by
    unfold SeqAt.shaped
    rw [e2, decide_eq_true (by omega)]; rfl
  refine ⟨d, d, e, e, sh, sh, ?_⟩
  rw [PySem.SeqAt.eqv_refl d e2]
  exact p
theorem zw_self {γ : Type} {f : PV → PV → γ} : ∀ l : List PV, List.zipWith f l l = l.map fun x => f x x
  | [] => rfl
  | x :: l => by simp [zw_self l]
theorem pl_int {n : Nat} {i : Int} : Pl (n + 1) (.int i) := trivial
theorem pl_non {n : Nat} : Pl (n + 1) .non := trivial
theorem pl_bl {n : Nat} {i : Bool} : Pl (n + 1) (.bl i) := trivial
theorem pl_name {n : Nat} {x : Str} (h : isName x) : Pl (n + 1) (.str x) := strOk_name h
theorem pl_tup {n : Nat} {xs : List PV} (h : ∀ x ∈ xs, Pl n x) : Pl (n + 1) (.tup xs) := h
theorem pl_nil {n : Nat} : ∀ x ∈ ([] : List PV), Pl n x := fun _ h => nomatch h
theorem pl_cons {n : Nat} {x : PV} {xs : List PV} (h : Pl n x) (g : ∀ x ∈ xs, Pl n x) : ∀ y ∈ x :: xs, Pl n y := fun y hy => by
  rcases List.mem_cons.mp hy with rfl | hy
  · exact h
  · exact g y hy
theorem pl_map {n : Nat} {β : Type} {f : β → PV} {l : List β} (h : ∀ x ∈ l, Pl n (f x)) : ∀ y ∈ l.map f, Pl n y := fun y hy => by
  obtain ⟨x, hx, rfl⟩ := List.mem_map.mp hy
  exact h x hx
end

def IsE (μ : PM) (a : Addr) (e : Elv) : Prop := μ a = some (.ins "Elevator" (fldsP e))
theorem IsE.sub {μ μ' : PM} {a : Addr} {e : Elv} (h : IsE μ a e) (g : Sub μ μ') : IsE μ' a e := g _ _ h
section
variable {FT : Nat → Option FI} [B : Base FT] {k : Nat} {μ : PM} {P : Post} {X : XPost} {a : Addr} {e : Elv}
theorem fe_ms (h : IsE μ a e) : fldW "Elevator" (.ref a) "measures" μ P = P (.tup (e.ms.map .str)) μ := fld_get h rfl
theorem fe_lots (h : IsE μ a e) : fldW "Elevator" (.ref a) "lots" μ P = P (.tup (e.lots.map lotP)) μ := fld_get h rfl
theorem fe_os (h : IsE μ a e) : fldW "Elevator" (.ref a) "orders" μ P = P (.tup (e.odrs.map odrP)) μ := fld_get h rfl
theorem fe_dr (h : IsE μ a e) : fldW "Elevator" (.ref a) "dryer" μ P = P (dryP e) μ := fld_get h rfl
theorem fe_st (h : IsE μ a e) : fldW "Elevator" (.ref a) "storing" μ P = P (.int e.st) μ := fld_get h rfl
theorem ie_El (h : IsE μ a e) : isiW (.ref a) [.own "Elevator"] ["Elevator"] μ P = P (.bl true) μ := iso_own h (by decide)
theorem se_check_elevator (h : IsE μ a e) (p : P .non μ) : (CS2 FT (k + 2)).fn F.check_elevator [.ref a] μ P X := by
  refine fn_run B.check_elevator rfl ?_
  unfold fi_check_elevator
  decreasing_with simp only [↓ie_El h]
  exact p
end
abbrev specE (e : Elv) : PV := .tup [.tup (e.ms.map .str), .tup (e.lots.map lotP), .tup (e.odrs.map odrP), dryP e, .int e.st]
theorem cut_take {xs : List PV} {n : Nat} : cutP xs none (some (n : Int)) = xs.take n := by
  unfold cutP
  rw [HT.sIx_none, HT.sIx_nat]
  rw [List.drop_zero, Nat.sub_zero]
  rcases Nat.le_total n xs.length with h | h
  · rw [Nat.min_eq_left h]
  · rw [Nat.min_eq_right h, List.take_of_length_le (Nat.le_refl _), List.take_of_length_le h]
theorem cut_drop {xs : List PV} {n : Nat} : cutP xs (some (n : Int)) none = xs.drop n := by
  unfold cutP
  rw [HT.sIx_none, HT.sIx_nat]
  rcases Nat.le_total n xs.length with h | h
  · rw [Nat.min_eq_left h, List.take_of_length_le (by simp)]
  · rw [Nat.min_eq_right h, List.drop_of_length_le (Nat.le_refl _), List.drop_of_length_le h]; simp
section
variable {FT : Nat → Option FI} [B : Base FT] {k : Nat} {μ : PM} {P : Post} {X : XPost} {a : Addr} {e : Elv}
theorem sr_is : ∀ (n : Nat) (v : PV) (P : Post) (X : XPost), Pl n v → P (.bl true) μ → (CS2 FT (k + n + 1)).fn F._law_is [v, v] μ P X
  | 0, _, _, _, h, _ => h.elim
  | n + 1, v, P, X, h, p => by
    refine fn_run (k := k + n) B._law_is rfl ?_
    unfold fi__law_is
    cases v with
    | non => decreasing_trivial_pre_omega; exact rt_here p
    | bl b =>
      decreasing_trivial_pre_omega
      decreasing_with simp only [beq_self_eq_true]
      exact rt_here p
    | int i =>
      decreasing_trivial_pre_omega
      decreasing_with simp only [beq_self_eq_true]
      exact rt_here p
    | str x =>
      decreasing_trivial_pre_omega
      decreasing_with simp only [beq_self_eq_true]
      exact rt_here p
    | tup xs =>
      decreasing_with simp only [↓e_comp]
      try simp only [beq_self_eq_true, startP, List.map_cons, List.map_nil, List.length_cons, List.length_nil, List.replicate_succ, List.replicate_zero, List.append_nil, List.cons_append, List.nil_append, Nat.reduceAdd, Nat.reduceSub, Nat.reduceLeDiff, List.zip_cons_cons, List.zip_nil_right, List.foldl_cons, List.foldl_nil, List.set_cons_zero, List.set_cons_succ, true_and, and_true, if_true, if_false, Bool.false_eq_true, Bool.not_true, Bool.not_false, Bool.true_eq_false, wipeP, nc, decide_true, decide_false, Int.reduceEq, Int.reduceLE, Int.reduceLT, Int.reduceNeg, Int.reduceSub, Int.reduceAdd, Int.reduceMul, Nat.reduceLT, eq_self, ↓getV_0, ↓getV_s, ↓getT_0, ↓getT_s, ↓ss_cons, ↓ss_nil, ↓s_par', ↓s_iff', ↓s_set', ↓s_ret', ↓s_retN', ↓s_ex', ↓s_brk', ↓s_cont', ↓s_pass', ↓s_setT', ↓es_cons, ↓es_nil, ↓rs_cons, ↓rs_nil, ↓e_var, ↓e_cst, ↓e_gc, ↓e_cmp, ↓e_chn, ↓e_not, ↓e_and, ↓e_or, ↓e_ite, ↓e_neg, ↓e_call, ↓e_bin, ↓e_tup', ↓e_lst', ↓m_tmp, ↓e_bf, ↓e_idx, ↓e_isi, ↓e_fld, ↓e_meth, ↓e_new, ↓e_bm, ↓e_dct, ↓e_lamc, ↓s_raise0, ↓s_try', ↓c_lt, ↓c_le, ↓c_gt, ↓c_ge, ↓c_eq, ↓c_ne, ↓c_isb, ↓c_isnb, ↓c_is, ↓c_isn, ↓c_eqb, ↓c_neb, ↓c_eqs, ↓c_nes, ↓nn_int, ↓nn_bl, ↓nn_str, ↓nn_tup, ↓nn_ref, ↓nn_non, ↓ex_bl, ↓ex_int, ↓b_add, ↓b_sub, ↓b_mul, ↓b_mod, ↓b_fdiv, ↓f_abs, ↓f_int, ↓f_lenT, ↓f_lenS, ↓f_tupT, ↓f_tupP, ↓f_min2, ↓f_min4, ↓f_max2, ↓i_tup, ↓m_int, ↓m_bl, ↓m_non, ↓m_str, ↓m_tup, ↓m_ref, ↓m_rp, ↓cs_nil, ↓cs_one, ↓a_nm, ↓a_tup, ↓as_nil, ↓as_cons, ↓up_up, ↓is_int_int, ↓is_int_bool, ↓is_int_tuple, ↓is_int_list, ↓is_int_str, ↓is_int_tuple_list, ↓is_int_dict, ↓is_int_int_str, ↓is_int_list_tuple, ↓is_int_own, ↓is_bool_int, ↓is_bool_bool, ↓is_bool_tuple, ↓is_bool_list, ↓is_bool_str, ↓is_bool_tuple_list, ↓is_bool_dict, ↓is_bool_int_str, ↓is_bool_list_tuple, ↓is_bool_own, ↓is_str_int, ↓is_str_bool, ↓is_str_tuple, ↓is_str_list, ↓is_str_str, ↓is_str_tuple_list, ↓is_str_dict, ↓is_str_int_str, ↓is_str_list_tuple, ↓is_str_own, ↓is_tuple_int, ↓is_tuple_bool, ↓is_tuple_tuple, ↓is_tuple_list, ↓is_tuple_str, ↓is_tuple_tuple_list, ↓is_tuple_dict, ↓is_tuple_int_str, ↓is_tuple_list_tuple, ↓is_tuple_own, ↓is_NoneType_int, ↓is_NoneType_bool, ↓is_NoneType_tuple, ↓is_NoneType_list, ↓is_NoneType_str, ↓is_NoneType_tuple_list, ↓is_NoneType_dict, ↓is_NoneType_int_str, ↓is_NoneType_list_tuple, ↓is_NoneType_own, ↓e_comp]
      refine ⟨xs.map fun x => .tup [x, x], by show some (List.zipWith _ xs xs) = _; rw [zw_self], comp_all xs rfl (by show some (List.zipWith _ xs xs) = _; rw [zw_self]) (fun x hx Q q => ?_) (rt_here p)⟩
      have hp : Pl n x := h x hx
      decreasing_with simp only [↓m_nt hp.nt]
      refine sr_is n x _ _ hp ?_
      exact q
    | _ => exact h.elim
theorem sr_isL {n : Nat} {a b : Addr} {xs : List PV} (ha : μ a = some (.lst xs)) (hb : μ b = some (.lst xs)) (h : ∀ x ∈ xs, Pl n x) (p : P (.bl true) μ) : (CS2 FT (k + n + 2)).fn F._law_is [.ref a, .ref b] μ P X := by
  refine fn_run (k := k + n) B._law_is rfl ?_
  unfold fi__law_is
  decreasing_with simp only [↓e_comp, ↓isl_list ha, ↓isl_list hb, ↓isl_tuple ha, ↓isl_tuple hb, ↓isl_tuple_list ha, ↓isl_tuple_list hb, ↓f_lenL ha, ↓f_lenL hb]
  try simp only [beq_self_eq_true, startP, List.map_cons, List.map_nil, List.length_cons, List.length_nil, List.replicate_succ, List.replicate_zero, List.append_nil, List.cons_append, List.nil_append, Nat.reduceAdd, Nat.reduceSub, Nat.reduceLeDiff, List.zip_cons_cons, List.zip_nil_right, List.foldl_cons, List.foldl_nil, List.set_cons_zero, List.set_cons_succ, true_and, and_true, if_true, if_false, Bool.false_eq_true, Bool.not_true, Bool.not_false, Bool.true_eq_false, wipeP, nc, decide_true, decide_false, Int.reduceEq, Int.reduceLE, Int.reduceLT, Int.reduceNeg, Int.reduceSub, Int.reduceAdd, Int.reduceMul, Nat.reduceLT, eq_self, ↓getV_0, ↓getV_s, ↓getT_0, ↓getT_s, ↓ss_cons, ↓ss_nil, ↓s_par', ↓s_iff', ↓s_set', ↓s_ret', ↓s_retN', ↓s_ex', ↓s_brk', ↓s_cont', ↓s_pass', ↓s_setT', ↓es_cons, ↓es_nil, ↓rs_cons, ↓rs_nil, ↓e_var, ↓e_cst, ↓e_gc, ↓e_cmp, ↓e_chn, ↓e_not, ↓e_and, ↓e_or, ↓e_ite, ↓e_neg, ↓e_call, ↓e_bin, ↓e_tup', ↓e_lst', ↓m_tmp, ↓e_bf, ↓e_idx, ↓e_isi, ↓e_fld, ↓e_meth, ↓e_new, ↓e_bm, ↓e_dct, ↓e_lamc, ↓s_raise0, ↓s_try', ↓c_lt, ↓c_le, ↓c_gt, ↓c_ge, ↓c_eq, ↓c_ne, ↓c_isb, ↓c_isnb, ↓c_is, ↓c_isn, ↓c_eqb, ↓c_neb, ↓c_eqs, ↓c_nes, ↓nn_int, ↓nn_bl, ↓nn_str, ↓nn_tup, ↓nn_ref, ↓nn_non, ↓ex_bl, ↓ex_int, ↓b_add, ↓b_sub, ↓b_mul, ↓b_mod, ↓b_fdiv, ↓f_abs, ↓f_int, ↓f_lenT, ↓f_lenS, ↓f_tupT, ↓f_tupP, ↓f_min2, ↓f_min4, ↓f_max2, ↓i_tup, ↓m_int, ↓m_bl, ↓m_non, ↓m_str, ↓m_tup, ↓m_ref, ↓m_rp, ↓cs_nil, ↓cs_one, ↓a_nm, ↓a_tup, ↓as_nil, ↓as_cons, ↓up_up, ↓is_int_int, ↓is_int_bool, ↓is_int_tuple, ↓is_int_list, ↓is_int_str, ↓is_int_tuple_list, ↓is_int_dict, ↓is_int_int_str, ↓is_int_list_tuple, ↓is_int_own, ↓is_bool_int, ↓is_bool_bool, ↓is_bool_tuple, ↓is_bool_list, ↓is_bool_str, ↓is_bool_tuple_list, ↓is_bool_dict, ↓is_bool_int_str, ↓is_bool_list_tuple, ↓is_bool_own, ↓is_str_int, ↓is_str_bool, ↓is_str_tuple, ↓is_str_list, ↓is_str_str, ↓is_str_tuple_list, ↓is_str_dict, ↓is_str_int_str, ↓is_str_list_tuple, ↓is_str_own, ↓is_tuple_int, ↓is_tuple_bool, ↓is_tuple_tuple, ↓is_tuple_list, ↓is_tuple_str, ↓is_tuple_tuple_list, ↓is_tuple_dict, ↓is_tuple_int_str, ↓is_tuple_list_tuple, ↓is_tuple_own, ↓is_NoneType_int, ↓is_NoneType_bool, ↓is_NoneType_tuple, ↓is_NoneType_list, ↓is_NoneType_str, ↓is_NoneType_tuple_list, ↓is_NoneType_dict, ↓is_NoneType_int_str, ↓is_NoneType_list_tuple, ↓is_NoneType_own, ↓e_comp, ↓isl_list ha, ↓isl_list hb, ↓isl_tuple ha, ↓isl_tuple hb, ↓isl_tuple_list ha, ↓isl_tuple_list hb, ↓f_lenL ha, ↓f_lenL hb]
  have ez : itemsOf μ .zip [.ref a, .ref b] = some (xs.map fun x => .tup [x, x]) := by
    show (match itS μ (.ref a), itS μ (.ref b) with
      | some xs, some ys => some (xs.zipWith (fun a b => PV.tup [a, b]) ys)
      | _, _ => none) = _
    simp only [itS, seqOf, ha, hb]
    rw [zw_self]
  refine ⟨_, ez, comp_all xs rfl ez (fun x hx Q q => ?_) (rt_here p)⟩
  have hp : Pl n x := h x hx
  decreasing_with simp only [↓m_nt hp.nt]
  refine sr_is n x _ _ hp ?_
  exact q
end

theorem it_rng {μ : PM} {n : Nat} (h : n ≤ 1000000) : itemsOf μ .rng [.int (n : Int)] = some (rngItems 0 n) := by
  show (if _ then _ else _) = _
  rw [if_pos ⟨by omega, by omega⟩]
  simp
/-- a walk over the places of a list -/
theorem walk_r {β : Type} {st : PM → Prop} {step : PV → PE_ → PM → (PE_ → PM → Prop) → Prop} {nx : PE_ → PM → Prop} {ρ : PE_} {items : List PV} (l : List β) (hi : items = rngItems 0 l.length) (I : List β → PE_ → PM → Prop) (h0 : I [] ρ μ) (hst : ∀ pre ρ μ, I pre ρ μ → st μ)
    (hs : ∀ pre x post ρ μ (Q : PE_ → PM → Prop), l = pre ++ x :: post → I pre ρ μ → (∀ ρ' μ', I (pre ++ [x]) ρ' μ' → Q ρ' μ') → step (.int (pre.length : Int)) ρ μ Q) (hn : ∀ ρ μ, I l ρ μ → nx ρ μ) : walkW st step nx items ρ μ := by
  subst hi
  unfold rngItems
  rw [List.range_eq_range']
  have key : ∀ (post pre : List β) (ρ : PE_) (μ : PM), l = pre ++ post → I pre ρ μ → walkW st step nx ((List.range' pre.length post.length).map fun (i : Nat) => PV.int (0 + i)) ρ μ := by
    intro post
    induction post with
    | nil =>
      intro pre ρ μ e i
      rw [List.append_nil] at e
      subst e
      exact ⟨hst _ _ _ i, hn _ _ i⟩
    | cons x post ih =>
      intro pre ρ μ e i
      have h1 := hs pre x post ρ μ (fun ρ' μ' => walkW st step nx ((List.range' (pre.length + 1) post.length).map fun (i : Nat) => PV.int (0 + i)) ρ' μ') e i fun ρ' μ' i' => by
        have := ih (pre ++ [x]) ρ' μ' (by rw [e]; simp) i'
        simpa using this
      refine ⟨hst _ _ _ i, ?_⟩
      show step (.int (0 + (pre.length : Int))) ρ μ _
      rw [Int.zero_add]
      exact h1
  exact key l [] ρ μ rfl h0
section
variable {μ : PM} {P : Post}
theorem i_at {xs : List PV} {n : Nat} {v : PV} (h : xs[n]? = some v) : idxW (.tup xs) (.int (n : Int)) μ P = P v μ := by
  have e : idxW (.tup xs) (.int (n : Int)) μ P = ∃ ys v, seqOf μ (.tup xs) = some ys ∧ atI ys (n : Int) = some v ∧ P v μ := rfl
  rw [e]
  simp [seqOf, atI_n, h]
end
section
variable {μ : PM}
theorem rngN {e : List PV} {m : Nat} {pre post : List PV} {x : PV} (eq : rngItems 0 m = pre ++ x :: post) : x = .int (pre.length : Int) ∧ pre.length < m := by
  unfold rngItems at eq
  have h1 := congrArg (fun l => l[pre.length]?) eq
  simp at h1
  obtain ⟨i, h2, h3⟩ := h1
  rw [List.getElem?_eq_some_iff] at h2
  obtain ⟨h4, h5⟩ := h2
  rw [List.getElem_range] at h5
  subst h5
  exact ⟨h3.symm, by simpa using h4⟩
/-- a comprehension over a range, a value each -/
theorem comp_rng {st : PM → Prop} {step : PV → PM → (Option PV → PM → Prop) → Prop} {fin : List PV → PM → Prop} {m : Nat} (f : Nat → PV) (hst : st μ)
    (hs : ∀ i, i < m → ∀ Q : Option PV → PM → Prop, Q (some (f i)) μ → step (.int (i : Int)) μ Q) (h : fin ((List.range m).map f) μ) : compW st step fin (rngItems 0 m) [] μ := by
  refine comp_m (g := fun i : Nat => PV.int (i : Int)) (List.range m) f ?_ hst (fun i hi Q q => hs i (List.mem_range.mp hi) Q q) h
  unfold rngItems
  exact List.map_congr_left fun i _ => by simp
end

section
variable {FT : Nat → Option FI} [B : Base FT] {k n : Nat} {μ : PM} {P : Post} {X : XPost} {a b : Addr} {e : Elv}
theorem se_with_lot (h : IsE μ a e) {l : Lot} (R : Right { e with lots := e.lots ++ [l] }) (p : ∀ b, μ b = none → P (.ref b) (up μ b (.ins "Elevator" (fldsP { e with lots := e.lots ++ [l] })))) : (CS2 FT (k + 12)).fn F.with_lot [.ref a, lotP l] μ P X := by
  refine fn_run B.with_lot rfl ?_
  unfold fi_with_lot
  decreasing_trivial_pre_omega
  refine se_check_elevator h ?_
  have hl := R.ll
  simp only [List.length_append, List.length_singleton] at hl
  decreasing_with simp only [↓fe_lots h, ↓fe_os h, ↓b_addT, List.length_map]
  refine ⟨Nat.le_trans hl (by decide), ?_⟩
  refine fn_run B.changed rfl ?_
  unfold fi_changed
  decreasing_with simp only [↓fe_ms h, ↓fe_dr h, ↓fe_st h]
  intro b hb
  have ea : List.map lotP e.lots ++ [lotP l] = ({ e with lots := e.lots ++ [l] } : Elv).lots.map lotP := by simp
  have key := sp_newE (k := k + 1) (FT := FT) (P := fun v μ2 => v = .non ∧ ∃ μ'', Sub μ'' μ2 ∧ ∃ μ1, Sub μ1 μ'' ∧ P (.ref b) μ1) (X := fun x μ' => ∃ μ'', Sub μ'' μ' ∧ ∃ μ1, Sub μ1 μ'' ∧ X x μ1) R (a := b) fun μ' sb => ⟨rfl, _, sb, _, Sub.refl, p b hb⟩
  rw [← ea] at key
  exact key
theorem se_with_order (h : IsE μ a e) {o : Odr} (R : Right { e with odrs := e.odrs ++ [o] }) (p : ∀ b, μ b = none → P (.ref b) (up μ b (.ins "Elevator" (fldsP { e with odrs := e.odrs ++ [o] })))) : (CS2 FT (k + 12)).fn F.with_order [.ref a, odrP o] μ P X := by
  refine fn_run B.with_order rfl ?_
  unfold fi_with_order
  decreasing_trivial_pre_omega
  refine se_check_elevator h ?_
  have hl := R.ol
  simp only [List.length_append, List.length_singleton] at hl
  decreasing_with simp only [↓fe_lots h, ↓fe_os h, ↓b_addT, List.length_map]
  refine ⟨Nat.le_trans hl (by decide), ?_⟩
  refine fn_run B.changed rfl ?_
  unfold fi_changed
  decreasing_with simp only [↓fe_ms h, ↓fe_dr h, ↓fe_st h]
  intro b hb
  have ea : List.map odrP e.odrs ++ [odrP o] = ({ e with odrs := e.odrs ++ [o] } : Elv).odrs.map odrP := by simp
  have key := sp_newE (k := k + 1) (FT := FT) (P := fun v μ2 => v = .non ∧ ∃ μ'', Sub μ'' μ2 ∧ ∃ μ1, Sub μ1 μ'' ∧ P (.ref b) μ1) (X := fun x μ' => ∃ μ'', Sub μ'' μ' ∧ ∃ μ1, Sub μ1 μ'' ∧ X x μ1) R (a := b) fun μ' sb => ⟨rfl, _, sb, _, Sub.refl, p b hb⟩
  rw [← ea] at key
  exact key
theorem pl_name' {n : Nat} {x : Str} (h : isName x) : Pl (n + 1) (.str x) := strOk_name h
theorem pl_opt {n : Nat} {o : Option Int} : Pl (n + 1) (optP o) := by cases o <;> exact trivial
theorem pl_specE (R : Right e) : Pl 6 (specE e) := by
  refine pl_tup (pl_cons (pl_tup (pl_map fun m hm => pl_name' (R.mn m hm))) (pl_cons (pl_tup (pl_map fun l hl => ?_)) (pl_cons (pl_tup (pl_map fun o ho => ?_)) (pl_cons (pl_tup (pl_cons (pl_name' R.own) (pl_cons pl_int (pl_cons (pl_tup (pl_map fun r hr => pl_int)) pl_nil)))) (pl_cons pl_int pl_nil)))))
  · have r := R.lots l hl
    exact pl_tup (pl_cons (pl_name' r.name) (pl_cons (pl_name' r.owner) (pl_cons pl_int (pl_cons pl_int (pl_cons (pl_tup (pl_map fun p hp => pl_tup (pl_cons pl_int (pl_cons pl_int pl_nil)))) pl_nil)))))
  · have r := R.odrs o ho
    exact pl_tup (pl_cons (pl_name' r.name) (pl_cons (pl_name' r.owner) (pl_cons pl_int (pl_cons pl_int (pl_cons pl_int (pl_cons pl_int (pl_cons (pl_tup (pl_map fun p hp => pl_tup (pl_cons pl_opt (pl_cons pl_opt pl_nil)))) pl_nil)))))))
theorem se_told (h : IsE μ a e) (p : P (specE e) μ) : (CS2 FT (k + 2)).fn F.Elevator_told [.ref a] μ P X := by
  refine fn_run B.Elevator_told rfl ?_
  unfold fi_Elevator_told
  try decreasing_with simp only [↓fe_ms h, ↓fe_lots h, ↓fe_os h, ↓fe_dr h, ↓fe_st h]
  exact rt_here p
theorem se_fields (h : IsE μ a e) (p : P (specE e) μ) : (CS2 FT (k + 2)).fn F._law_fields [.ref a] μ P X := by
  refine fn_run B._law_fields rfl ?_
  unfold fi__law_fields
  try decreasing_with simp only [↓fe_ms h, ↓fe_lots h, ↓fe_os h, ↓fe_dr h, ↓fe_st h]
  exact rt_here p
theorem se___eq__ (h : IsE μ a e) (g : IsE μ b e) (R : Right e) (p : P (.bl true) μ) : (CS2 FT (k + 3)).fn F.Elevator___eq__ [.ref a, .ref b] μ P X := by
  refine fn_run B.Elevator___eq__ rfl ?_
  unfold fi_Elevator___eq__
  try decreasing_with simp only [↓ie_El g]
  refine ⟨a, _, rfl, h, rfl, ?_⟩
  decreasing_trivial_pre_omega
  refine se_told h ?_
  decreasing_trivial_pre_omega
  refine ⟨b, _, rfl, g, rfl, ?_⟩
  decreasing_trivial_pre_omega
  refine se_told g ?_
  refine c_eqT (pl_specE R) (by decide) ?_
  exact rt_here p
theorem se_made (R : Right e) (p : ∀ b, μ b = none → P (.ref b) (up μ b (.ins "Elevator" (fldsP e)))) : (CS2 FT (k + 10)).fn F._law_made [specE e] μ P X := by
  refine fn_run B._law_made rfl ?_
  unfold fi__law_made
  decreasing_trivial_pre_omega
  intro b hb
  refine sp_newE R fun μ' sb => ⟨rfl, ?_⟩
  decreasing_trivial_pre_omega
  exact ⟨_, sb, p b hb⟩
end

section
variable {C : Calls} {μ : PM} {P : Post} {X : XPost} {ρ : PE_} {D : PEnds} {e o i : E} {v : PV}
def subW (x y v : PV) (μ : PM) (R : PM → Prop) : Prop := ∃ a j xs k, x = .ref a ∧ y = .int j ∧ μ a = some (.lst xs) ∧ ixN xs.length j = some k ∧ R (up μ a (.lst (xs.set k v)))
theorem s_subW : wpS C (.sub o i e) D ρ μ = wpE C e ρ μ (fun v μ1 => mat v μ1 fun v' μ2 => wpE C o ρ μ2 (fun x μ3 => wpE C i ρ μ3 (fun y μ4 => subW x y v' μ4 (D.nx ρ)) (fun x μ' => D.rs x ρ μ')) (fun x μ' => D.rs x ρ μ')) (fun x μ' => D.rs x ρ μ') := by simp only [wpS, subW]
theorem sub_at {p : Addr} {xs : List PV} {n : Nat} {R : PM → Prop} : subW (.ref p) (.int (no_index (OfNat.ofNat n))) v (up μ p (.lst xs)) R = (n < xs.length ∧ R (up μ p (.lst (xs.set n v)))) := by
  unfold subW
  refine propext ⟨?_, ?_⟩
  · rintro ⟨a, j, ys, k, e1, e2, e3, e4, r⟩
    cases e1
    rw [up_same] at e3
    cases e3
    have : (OfNat.ofNat n : Int) = j := by cases e2; rfl
    subst this
    by_cases h : n < xs.length
    · have : ixN xs.length (OfNat.ofNat n : Int) = some n := by
        show ixN xs.length (n : Int) = some n
        unfold ixN
        rw [if_pos (by omega), if_pos (by omega)]
        simp
      rw [this] at e4
      cases e4
      rw [up_up] at r
      exact ⟨h, r⟩
    · have : ixN xs.length (OfNat.ofNat n : Int) = none := by
        show ixN xs.length (n : Int) = none
        unfold ixN
        rw [if_pos (by omega), if_neg (by omega)]
      rw [this] at e4
      cases e4
  · rintro ⟨h, r⟩
    refine ⟨p, _, xs, n, rfl, rfl, up_same, ?_, by rw [up_up]; exact r⟩
    show ixN xs.length (n : Int) = some n
    unfold ixN
    rw [if_pos (by omega), if_pos (by omega)]
    simp
theorem sub_in {p : Addr} {xs : List PV} {n : Nat} {R : PM → Prop} (h : μ p = some (.lst xs)) : subW (.ref p) (.int (no_index (OfNat.ofNat n))) v μ R = (n < xs.length ∧ R (up μ p (.lst (xs.set n v)))) := by
  have := sub_at (μ := μ) (p := p) (xs := xs) (n := n) (v := v) (R := R)
  rwa [up_id h] at this
theorem i_lst {p : Addr} {xs : List PV} (h : μ p = some (.lst xs)) {n : Nat} : idxW (.ref p) (.int (no_index (OfNat.ofNat n))) μ P = getT xs n fun v => P v μ := by
  have e : idxW (.ref p) (.int (OfNat.ofNat n)) μ P = ∃ ys v, seqOf μ (.ref p) = some ys ∧ atI ys (n : Int) = some v ∧ P v μ := rfl
  rw [e, ← getT_eq]
  simp [seqOf, atI_n, h]
theorem i_up {p : Addr} {xs : List PV} {n : Nat} : idxW (.ref p) (.int (no_index (OfNat.ofNat n))) (up μ p (.lst xs)) P = getT xs n fun v => P v (up μ p (.lst xs)) := i_lst up_same
theorem i_dyn {p : Addr} {xs : List PV} {j : Int} {v : PV} (h : μ p = some (.lst xs)) (hv : xs[j.toNat]? = some v) (hj : 0 ≤ j) : idxW (.ref p) (.int j) μ P = P v μ := by
  obtain ⟨n, rfl⟩ := Int.eq_ofNat_of_zero_le hj
  have e : idxW (.ref p) (.int (n : Int)) μ P = ∃ ys v, seqOf μ (.ref p) = some ys ∧ atI ys (n : Int) = some v ∧ P v μ := rfl
  rw [e]
  have hv' : xs[n]? = some v := by simpa using hv
  simp [seqOf, atI_n, h, hv']
end
/-- the hand stands at h; C: no more draws than that -/
def HandOk (μ : PM) (h a : Addr) (C : Nat) : Prop := ∃ cells i x sd t, μ h = some (.lst [.ref a, .int i, .int x, .int sd, .int t]) ∧ a ≠ h ∧ μ a = some (.lst (List.map PV.int cells)) ∧ (∀ c ∈ cells, 0 ≤ c ∧ c.natAbs.log2 < 2000000) ∧
  0 ≤ i ∧ 0 ≤ x ∧ x.natAbs.log2 < 2000000 ∧ 0 ≤ sd ∧ sd < 1099511627776 ∧ 0 ≤ t ∧ t ≤ C
/-- all but the hand stays -/
def Bey (h : Addr) (μ μ' : PM) : Prop := ∀ x o, x ≠ h → μ x = some o → μ' x = some o
theorem Bey.refl {h : Addr} {μ : PM} : Bey h μ μ := fun _ _ _ e => e
theorem Bey.trans {h : Addr} {μ1 μ2 μ3 : PM} (a : Bey h μ1 μ2) (b : Bey h μ2 μ3) : Bey h μ1 μ3 := fun x o n e => b x o n (a x o n e)
theorem Bey.of {h : Addr} {μ μ' : PM} (s : Sub μ μ') : Bey h μ μ' := fun x o _ e => s x o e
theorem HandOk.sub {μ μ' : PM} {h a : Addr} {C : Nat} (H : HandOk μ h a C) (s : Sub μ μ') : HandOk μ' h a C := by
  obtain ⟨cells, i, x, sd, t, h1, h2, h3, r⟩ := H
  exact ⟨cells, i, x, sd, t, s _ _ h1, h2, s _ _ h3, r⟩
theorem HandOk.mono {μ : PM} {h a : Addr} {C C' : Nat} (H : HandOk μ h a C) (l : C ≤ C') : HandOk μ h a C' := by
  obtain ⟨cells, i, x, sd, t, h1, h2, h3, h4, h5, h6, h7, h8, h9, h10, h11⟩ := H
  exact ⟨cells, i, x, sd, t, h1, h2, h3, h4, h5, h6, h7, h8, h9, h10, by omega⟩
theorem HandOk.some {μ : PM} {h a : Addr} {C : Nat} (H : HandOk μ h a C) : ∃ o, μ h = some o := by
  obtain ⟨cells, i, x, sd, t, h1, _⟩ := H
  exact ⟨_, h1⟩
theorem HandOk.ne {μ : PM} {h a b : Addr} {C : Nat} (H : HandOk μ h a C) (n : μ b = none) : b ≠ h := fun e => by
  subst e
  obtain ⟨o, ho⟩ := H.some
  rw [ho] at n; cases n
theorem HandOk.neA {μ : PM} {h a b : Addr} {C : Nat} (H : HandOk μ h a C) (n : μ b = none) : b ≠ a := fun e => by
  subst e
  obtain ⟨cells, i, x, sd, t, h1, h2, h3, _⟩ := H
  rw [h3] at n; cases n
/-- elsewhere something is written -/
theorem HandOk.put {μ : PM} {h a b : Addr} {o : PO} {C : Nat} (H : HandOk μ h a C) (n : b ≠ h) (m : b ≠ a) : HandOk (up μ b o) h a C := by
  obtain ⟨cells, i, x, sd, t, h1, h2, h3, r⟩ := H
  exact ⟨cells, i, x, sd, t, by rw [up_ne n.symm]; exact h1, h2, by rw [up_ne m.symm]; exact h3, r⟩
/-- a place that was new is written -/
theorem Bey.put {h : Addr} {μ μ' : PM} {b : Addr} {o : PO} (B : Bey h μ μ') (n : μ b = none) : Bey h μ (up μ' b o) := fun y p hy e => by
  have ny : y ≠ b := fun e' => by subst e'; rw [e] at n; cases n
  rw [up_ne ny]
  exact B y p hy e
def tl_draw : List S := fi__law_draw.body.tail
theorem log_le {a b : Nat} (h : a ≤ b) : a.log2 ≤ b.log2 := by
  by_cases z : a = 0
  · rw [z]; exact Nat.zero_le _
  · rw [Nat.le_log2 (by omega)]
    exact Nat.le_trans (Nat.log2_self_le z) h
section
variable {FT : Nat → Option FI} [B : Base FT] {k : Nat} {μ : PM} {P : Post} {X : XPost} {h a : Addr} {C : Nat}
theorem sp__law_draw (H : HandOk μ h a C) (hC : C ≤ 1000000) {many : Int} (hm : 0 < many) (hm2 : many ≤ 10 ^ 30) (p : ∀ d μ', 0 ≤ d → d < many → HandOk μ' h a (C + 1) → Bey h μ μ' → P (.int d) μ') : (CS2 FT (k + 2)).fn F._law_draw [.ref h, .int many] μ P X := by
  obtain ⟨cells, i, x, sd, t, H, ha, Hc, hcells, hi, hx, hxl, hsd0, hsd, ht0, htC⟩ := H
  refine fn_run B._law_draw rfl ?_
  show wpSs _ (_ :: tl_draw) _ (startP 5 _) _
  have fin : ∀ i' x' sd' t' d : Int, 0 ≤ i' → 0 ≤ x' → x'.natAbs.log2 < 2000000 → 0 ≤ sd' → sd' < 1099511627776 → 0 ≤ t' → t' ≤ C + 1 → 0 ≤ d → d < many → ∃ μ'', Sub μ'' (up μ h (.lst [.ref a, .int i', .int x', .int sd', .int t'])) ∧ P (.int d) μ'' := by
    intro i' x' sd' t' d g1 g2 g3 g4 g5 g6 g7 g8 g9
    refine rt_here (p d _ g8 g9 ⟨cells, i', x', sd', t', up_same, ha, by rw [up_ne ha]; exact Hc, hcells, g1, g2, g3, g4, g5, g6, by omega⟩ ?_)
    intro y o hy e
    rw [up_ne hy]; exact e
  have pm : ∀ y : Int, Builtin.divisionGoesByPylong y many = false := fun y => PyProof.noPylong_of_log2 (Nat.lt_trans (sm_log (sm_of (by omega) hm2)) (by decide))
  have tail : ∀ (i' x' sd' : Int) (o3 : Option PV), 0 ≤ i' → 0 ≤ x' → x'.natAbs.log2 < 2000000 → 0 ≤ sd' → sd' < 1099511627776 → wpSs (CS2 FT (k + 1)) tl_draw { nx := fun _ μ' => P .non μ', rt := fun v μ' => ∃ μ'', Sub μ'' μ' ∧ P v μ'', bk := fun _ _ => False, ct := fun _ _ => False, rs := fun x _ μ' => ∃ μ'', Sub μ'' μ' ∧ X x μ'' }
      [some (.ref h), some (.int many), none, o3, none] (up μ h (.lst [.ref a, .int i', .int x', .int sd', .int t])) := by
    intro i' x' sd' o3 g1 g2 g3 g4 g5
    unfold tl_draw fi__law_draw
    simp only [List.tail_cons, startP, List.map_cons, List.map_nil, List.length_cons, List.length_nil, List.replicate_succ, List.replicate_zero, List.append_nil, List.cons_append, List.nil_append, Nat.reduceAdd, Nat.reduceSub, Nat.reduceLeDiff, List.zip_cons_cons, List.zip_nil_right, List.foldl_cons, List.foldl_nil, List.set_cons_zero, List.set_cons_succ, true_and, and_true, if_true, if_false, Bool.false_eq_true, Bool.not_true, Bool.not_false, Bool.true_eq_false, wipeP, nc, decide_true, decide_false, Int.reduceEq, Int.reduceLE, Int.reduceLT, Int.reduceNeg, Int.reduceSub, Int.reduceAdd, Int.reduceMul, Nat.reduceLT, eq_self, ↓getV_0, ↓getV_s, ↓getT_0, ↓getT_s, ↓ss_cons, ↓ss_nil, ↓s_par', ↓s_iff', ↓s_set', ↓s_ret', ↓s_retN', ↓s_ex', ↓s_brk', ↓s_cont', ↓s_pass', ↓s_setT', ↓es_cons, ↓es_nil, ↓rs_cons, ↓rs_nil, ↓e_var, ↓e_cst, ↓e_gc, ↓e_cmp, ↓e_chn, ↓e_not, ↓e_and, ↓e_or, ↓e_ite, ↓e_neg, ↓e_call, ↓e_bin, ↓e_tup', ↓e_lst', ↓m_tmp, ↓e_bf, ↓e_idx, ↓e_isi, ↓e_fld, ↓e_meth, ↓e_new, ↓e_bm, ↓e_dct, ↓e_lamc, ↓s_raise0, ↓s_try', ↓c_lt, ↓c_le, ↓c_gt, ↓c_ge, ↓c_eq, ↓c_ne, ↓c_isb, ↓c_isnb, ↓c_is, ↓c_isn, ↓c_eqb, ↓c_neb, ↓c_eqs, ↓c_nes, ↓nn_int, ↓nn_bl, ↓nn_str, ↓nn_tup, ↓nn_ref, ↓nn_non, ↓ex_bl, ↓ex_int, ↓b_add, ↓b_sub, ↓b_mul, ↓b_mod, ↓b_fdiv, ↓f_abs, ↓f_int, ↓f_lenT, ↓f_lenS, ↓f_tupT, ↓f_tupP, ↓f_min2, ↓f_min4, ↓f_max2, ↓i_tup, ↓m_int, ↓m_bl, ↓m_non, ↓m_str, ↓m_tup, ↓m_ref, ↓m_rp, ↓cs_nil, ↓cs_one, ↓a_nm, ↓a_tup, ↓as_nil, ↓as_cons, ↓up_up, ↓is_int_int, ↓is_int_bool, ↓is_int_tuple, ↓is_int_list, ↓is_int_str, ↓is_int_tuple_list, ↓is_int_dict, ↓is_int_int_str, ↓is_int_list_tuple, ↓is_int_own, ↓is_bool_int, ↓is_bool_bool, ↓is_bool_tuple, ↓is_bool_list, ↓is_bool_str, ↓is_bool_tuple_list, ↓is_bool_dict, ↓is_bool_int_str, ↓is_bool_list_tuple, ↓is_bool_own, ↓is_str_int, ↓is_str_bool, ↓is_str_tuple, ↓is_str_list, ↓is_str_str, ↓is_str_tuple_list, ↓is_str_dict, ↓is_str_int_str, ↓is_str_list_tuple, ↓is_str_own, ↓is_tuple_int, ↓is_tuple_bool, ↓is_tuple_tuple, ↓is_tuple_list, ↓is_tuple_str, ↓is_tuple_tuple_list, ↓is_tuple_dict, ↓is_tuple_int_str, ↓is_tuple_list_tuple, ↓is_tuple_own, ↓is_NoneType_int, ↓is_NoneType_bool, ↓is_NoneType_tuple, ↓is_NoneType_list, ↓is_NoneType_str, ↓is_NoneType_tuple_list, ↓is_NoneType_dict, ↓is_NoneType_int_str, ↓is_NoneType_list_tuple, ↓is_NoneType_own, ↓s_subW, ↓sub_at, ↓i_up]
    by_cases z : 0 < x'
    · rw [decide_eq_true z]
      simp only [List.tail_cons, startP, List.map_cons, List.map_nil, List.length_cons, List.length_nil, List.replicate_succ, List.replicate_zero, List.append_nil, List.cons_append, List.nil_append, Nat.reduceAdd, Nat.reduceSub, Nat.reduceLeDiff, List.zip_cons_cons, List.zip_nil_right, List.foldl_cons, List.foldl_nil, List.set_cons_zero, List.set_cons_succ, true_and, and_true, if_true, if_false, Bool.false_eq_true, Bool.not_true, Bool.not_false, Bool.true_eq_false, wipeP, nc, decide_true, decide_false, Int.reduceEq, Int.reduceLE, Int.reduceLT, Int.reduceNeg, Int.reduceSub, Int.reduceAdd, Int.reduceMul, Nat.reduceLT, eq_self, ↓getV_0, ↓getV_s, ↓getT_0, ↓getT_s, ↓ss_cons, ↓ss_nil, ↓s_par', ↓s_iff', ↓s_set', ↓s_ret', ↓s_retN', ↓s_ex', ↓s_brk', ↓s_cont', ↓s_pass', ↓s_setT', ↓es_cons, ↓es_nil, ↓rs_cons, ↓rs_nil, ↓e_var, ↓e_cst, ↓e_gc, ↓e_cmp, ↓e_chn, ↓e_not, ↓e_and, ↓e_or, ↓e_ite, ↓e_neg, ↓e_call, ↓e_bin, ↓e_tup', ↓e_lst', ↓m_tmp, ↓e_bf, ↓e_idx, ↓e_isi, ↓e_fld, ↓e_meth, ↓e_new, ↓e_bm, ↓e_dct, ↓e_lamc, ↓s_raise0, ↓s_try', ↓c_lt, ↓c_le, ↓c_gt, ↓c_ge, ↓c_eq, ↓c_ne, ↓c_isb, ↓c_isnb, ↓c_is, ↓c_isn, ↓c_eqb, ↓c_neb, ↓c_eqs, ↓c_nes, ↓nn_int, ↓nn_bl, ↓nn_str, ↓nn_tup, ↓nn_ref, ↓nn_non, ↓ex_bl, ↓ex_int, ↓b_add, ↓b_sub, ↓b_mul, ↓b_mod, ↓b_fdiv, ↓f_abs, ↓f_int, ↓f_lenT, ↓f_lenS, ↓f_tupT, ↓f_tupP, ↓f_min2, ↓f_min4, ↓f_max2, ↓i_tup, ↓m_int, ↓m_bl, ↓m_non, ↓m_str, ↓m_tup, ↓m_ref, ↓m_rp, ↓cs_nil, ↓cs_one, ↓a_nm, ↓a_tup, ↓as_nil, ↓as_cons, ↓up_up, ↓is_int_int, ↓is_int_bool, ↓is_int_tuple, ↓is_int_list, ↓is_int_str, ↓is_int_tuple_list, ↓is_int_dict, ↓is_int_int_str, ↓is_int_list_tuple, ↓is_int_own, ↓is_bool_int, ↓is_bool_bool, ↓is_bool_tuple, ↓is_bool_list, ↓is_bool_str, ↓is_bool_tuple_list, ↓is_bool_dict, ↓is_bool_int_str, ↓is_bool_list_tuple, ↓is_bool_own, ↓is_str_int, ↓is_str_bool, ↓is_str_tuple, ↓is_str_list, ↓is_str_str, ↓is_str_tuple_list, ↓is_str_dict, ↓is_str_int_str, ↓is_str_list_tuple, ↓is_str_own, ↓is_tuple_int, ↓is_tuple_bool, ↓is_tuple_tuple, ↓is_tuple_list, ↓is_tuple_str, ↓is_tuple_tuple_list, ↓is_tuple_dict, ↓is_tuple_int_str, ↓is_tuple_list_tuple, ↓is_tuple_own, ↓is_NoneType_int, ↓is_NoneType_bool, ↓is_NoneType_tuple, ↓is_NoneType_list, ↓is_NoneType_str, ↓is_NoneType_tuple_list, ↓is_NoneType_dict, ↓is_NoneType_int_str, ↓is_NoneType_list_tuple, ↓is_NoneType_own, ↓s_subW, ↓sub_at, ↓i_up]
      refine ⟨hm, hm, pm _, ?_⟩
      refine fin _ _ _ _ _ g1 (Int.ediv_nonneg g2 (by omega)) (Nat.lt_of_le_of_lt (log_le ?_) g3) g4 g5 ht0 (by omega) (Int.emod_nonneg _ (by omega)) (Int.emod_lt_of_pos _ hm)
      have := Int.ediv_le_self many g2
      have := Int.ediv_nonneg g2 (show 0 ≤ many by omega)
      omega
    · rw [decide_eq_false z]
      simp only [List.tail_cons, startP, List.map_cons, List.map_nil, List.length_cons, List.length_nil, List.replicate_succ, List.replicate_zero, List.append_nil, List.cons_append, List.nil_append, Nat.reduceAdd, Nat.reduceSub, Nat.reduceLeDiff, List.zip_cons_cons, List.zip_nil_right, List.foldl_cons, List.foldl_nil, List.set_cons_zero, List.set_cons_succ, true_and, and_true, if_true, if_false, Bool.false_eq_true, Bool.not_true, Bool.not_false, Bool.true_eq_false, wipeP, nc, decide_true, decide_false, Int.reduceEq, Int.reduceLE, Int.reduceLT, Int.reduceNeg, Int.reduceSub, Int.reduceAdd, Int.reduceMul, Nat.reduceLT, eq_self, ↓getV_0, ↓getV_s, ↓getT_0, ↓getT_s, ↓ss_cons, ↓ss_nil, ↓s_par', ↓s_iff', ↓s_set', ↓s_ret', ↓s_retN', ↓s_ex', ↓s_brk', ↓s_cont', ↓s_pass', ↓s_setT', ↓es_cons, ↓es_nil, ↓rs_cons, ↓rs_nil, ↓e_var, ↓e_cst, ↓e_gc, ↓e_cmp, ↓e_chn, ↓e_not, ↓e_and, ↓e_or, ↓e_ite, ↓e_neg, ↓e_call, ↓e_bin, ↓e_tup', ↓e_lst', ↓m_tmp, ↓e_bf, ↓e_idx, ↓e_isi, ↓e_fld, ↓e_meth, ↓e_new, ↓e_bm, ↓e_dct, ↓e_lamc, ↓s_raise0, ↓s_try', ↓c_lt, ↓c_le, ↓c_gt, ↓c_ge, ↓c_eq, ↓c_ne, ↓c_isb, ↓c_isnb, ↓c_is, ↓c_isn, ↓c_eqb, ↓c_neb, ↓c_eqs, ↓c_nes, ↓nn_int, ↓nn_bl, ↓nn_str, ↓nn_tup, ↓nn_ref, ↓nn_non, ↓ex_bl, ↓ex_int, ↓b_add, ↓b_sub, ↓b_mul, ↓b_mod, ↓b_fdiv, ↓f_abs, ↓f_int, ↓f_lenT, ↓f_lenS, ↓f_tupT, ↓f_tupP, ↓f_min2, ↓f_min4, ↓f_max2, ↓i_tup, ↓m_int, ↓m_bl, ↓m_non, ↓m_str, ↓m_tup, ↓m_ref, ↓m_rp, ↓cs_nil, ↓cs_one, ↓a_nm, ↓a_tup, ↓as_nil, ↓as_cons, ↓up_up, ↓is_int_int, ↓is_int_bool, ↓is_int_tuple, ↓is_int_list, ↓is_int_str, ↓is_int_tuple_list, ↓is_int_dict, ↓is_int_int_str, ↓is_int_list_tuple, ↓is_int_own, ↓is_bool_int, ↓is_bool_bool, ↓is_bool_tuple, ↓is_bool_list, ↓is_bool_str, ↓is_bool_tuple_list, ↓is_bool_dict, ↓is_bool_int_str, ↓is_bool_list_tuple, ↓is_bool_own, ↓is_str_int, ↓is_str_bool, ↓is_str_tuple, ↓is_str_list, ↓is_str_str, ↓is_str_tuple_list, ↓is_str_dict, ↓is_str_int_str, ↓is_str_list_tuple, ↓is_str_own, ↓is_tuple_int, ↓is_tuple_bool, ↓is_tuple_tuple, ↓is_tuple_list, ↓is_tuple_str, ↓is_tuple_tuple_list, ↓is_tuple_dict, ↓is_tuple_int_str, ↓is_tuple_list_tuple, ↓is_tuple_own, ↓is_NoneType_int, ↓is_NoneType_bool, ↓is_NoneType_tuple, ↓is_NoneType_list, ↓is_NoneType_str, ↓is_NoneType_tuple_list, ↓is_NoneType_dict, ↓is_NoneType_int_str, ↓is_NoneType_list_tuple, ↓is_NoneType_own, ↓s_subW, ↓sub_at, ↓i_up]
      have e1 : ∀ y : Int, 0 ≤ y % 2147483647 ∧ y % 2147483647 < 2147483647 := fun y => ⟨Int.emod_nonneg _ (by decide), Int.emod_lt_of_pos _ (by decide)⟩
      have l1 : ∀ y : Int, Sm (y % 2147483647) := fun y => by have := e1 y; exact sm_of (by omega) (by omega)
      have l2 : ∀ y : Int, Sm (y % 2147483647 / 1009 + 69621) := fun y => by have := e1 y; exact sm_of (by omega) (by omega)
      have l3 : ∀ y : Int, Sm (y % 2147483647 / 2003 + 40014) := fun y => by have := e1 y; exact sm_of (by omega) (by omega)
      have pq : ∀ y q : Int, 0 < q → q ≤ 10 ^ 30 → Builtin.divisionGoesByPylong y q = false := fun y q q1 q2 => PyProof.noPylong_of_log2 (Nat.lt_trans (sm_log (sm_of (by omega) q2)) (by decide))
      refine ⟨sm_mul (by decide) (sm_of (by omega) (by omega)), sm_mul (sm_of (by omega) (by omega)) (by decide), pq _ _ (by decide) (by decide), sm_mul (l1 _) (l2 _), pq _ _ (by decide) (by decide), sm_mul (l1 _) (l3 _), pq _ _ (by decide) (by decide), hm, ?_⟩
      exact fin _ _ _ _ _ g1 g2 g3 g4 g5 (by omega) (by omega) (Int.emod_nonneg _ (by omega)) (Int.emod_lt_of_pos _ hm)
  decreasing_with simp only [↓s_subW, ↓sub_at, ↓i_lst H, ↓f_lenL Hc, List.length_map, ↓b_pow]
  have back : wpSs (CS2 FT (k + 1)) tl_draw { nx := fun _ μ' => P .non μ', rt := fun v μ' => ∃ μ'', Sub μ'' μ' ∧ P v μ'', bk := fun _ _ => False, ct := fun _ _ => False, rs := fun x _ μ' => ∃ μ'', Sub μ'' μ' ∧ X x μ'' } [some (.ref h), some (.int many), none, none, none] μ := by
    have := tail i x sd none hi hx hxl hsd0 hsd
    rwa [up_id H] at this
  by_cases z : x = 0
  · rw [decide_eq_true z]
    by_cases w : i < (cells.length : Int)
    · rw [decide_eq_true w, if_pos rfl, if_pos rfl]
      obtain ⟨c, hc⟩ : ∃ c, cells[i.toNat]? = some c := ⟨cells[i.toNat]'(by omega), List.getElem?_eq_getElem _⟩
      have hcm : c ∈ cells := List.mem_of_getElem? hc
      obtain ⟨c0, cl⟩ := hcells c hcm
      rw [i_dyn (v := .int c) Hc (by simp [hc]) hi]
      decreasing_with simp only [↓s_subW, ↓sub_in H, ↓sub_at, ↓i_lst H, ↓i_up]
      have m1 : MulOk sd 69621 := sm_mul (sm_of (by omega) (by omega)) (by decide)
      have m2 : MulOk c 40692 := by
        have : (40692 : Int).natAbs.log2 < 100 := by decide
        unfold MulOk; omega
      refine ⟨m1, m2, ⟨by decide, by decide, by decide⟩, ?_⟩
      have s0 : 0 ≤ (sd * 69621 + c * 40692 + 23) % 2147483629 := Int.emod_nonneg _ (by decide)
      have s1 : (sd * 69621 + c * 40692 + 23) % 2147483629 < 2147483629 := Int.emod_lt_of_pos _ (by decide)
      cases decide ((10 : Int) ^ Int.toNat 18 ≤ c)
      · decreasing_trivial_pre_omega
        exact tail _ _ _ _ (by omega) hx hxl s0 (by omega)
      · decreasing_with simp only [↓s_subW, ↓sub_at]
        exact tail _ _ _ _ (by omega) c0 cl s0 (by omega)
    · rw [decide_eq_false w, if_pos rfl, if_neg Bool.false_ne_true]
      exact back
  · rw [decide_eq_false z, if_neg Bool.false_ne_true]
    exact back
/-- one of a list -/
theorem sp__law_any (H : HandOk μ h a C) (hC : C ≤ 1000000) {b : Addr} {xs : List PV} (hb : μ b = some (.lst xs)) (nb : b ≠ h) (hx : xs ≠ []) (hl : xs.length ≤ 10000000) (hn : ∀ v ∈ xs, NT v) (p : ∀ v μ', v ∈ xs → HandOk μ' h a (C + 1) → Bey h μ μ' → P v μ') : (CS2 FT (k + 3)).fn F._law_any [.ref h, .ref b] μ P X := by
  refine fn_run B._law_any rfl ?_
  unfold fi__law_any
  decreasing_with simp only [↓f_lenL hb]
  have h0 : 0 < xs.length := List.length_pos_iff.mpr hx
  refine sp__law_draw H hC (by omega) (by omega) fun d μ' d0 d1 H' B' => ?_
  obtain ⟨v, hv⟩ : ∃ v, xs[d.toNat]? = some v := ⟨xs[d.toNat]'(by omega), List.getElem?_eq_getElem _⟩
  rw [i_dyn (v := v) (B' b _ nb hb) hv d0]
  have hm := List.mem_of_getElem? hv
  rw [m_nt (hn v hm)]
  exact rt_here (p v μ' hm H' B')
theorem i_str {z : Str} {j : Int} {c : Nat} (hv : z.cps.toList[j.toNat]? = some c) (hj : 0 ≤ j) (p : P (.str ⟨#[c]⟩) μ) : idxW (.str z) (.int j) μ P := by
  obtain ⟨n, rfl⟩ := Int.eq_ofNat_of_zero_le hj
  refine ⟨c, ?_, p⟩
  rw [atI_n]
  simpa using hv
theorem sp__law_anyS (H : HandOk μ h a C) (hC : C ≤ 1000000) {z : Str} (hx : 0 < z.length) (hl : z.length ≤ 10000000) (p : ∀ c μ', c ∈ z.cps.toList → HandOk μ' h a (C + 1) → Bey h μ μ' → P (.str ⟨#[c]⟩) μ') : (CS2 FT (k + 3)).fn F._law_any [.ref h, .str z] μ P X := by
  refine fn_run B._law_any rfl ?_
  unfold fi__law_any
  decreasing_trivial_pre_omega
  refine sp__law_draw H hC (by omega) (by omega) fun d μ' d0 d1 H' B' => ?_
  have hz : z.length = z.cps.toList.length := by simp [Str.length]
  obtain ⟨c, hv⟩ : ∃ c, z.cps.toList[d.toNat]? = some c := ⟨z.cps.toList[d.toNat]'(by omega), List.getElem?_eq_getElem _⟩
  refine i_str hv d0 ?_
  exact rt_here (p c μ' (List.mem_of_getElem? hv) H' B')
abbrev abc : Str := "abcdefghijklmnopqrstuvwxyz"
theorem abc_in : ∀ c ∈ abc.cps.toList, 97 ≤ c ∧ c ≤ 122 := by decide +kernel
theorem abc_nd : abc.cps.toList.Nodup := by decide +kernel
theorem abc_ln : abc.cps.toList.length = 26 := by decide +kernel
theorem join_ch : ∀ cs : List Nat, (Str.join "" (cs.map fun c => (⟨#[c]⟩ : Str))).cps.toList = cs
  | [] => rfl
  | [c] => rfl
  | c :: d :: r => by
    have ih := join_ch (d :: r)
    show (((⟨#[c]⟩ : Str) ++ ("" : Str)) ++ Str.join "" ((d :: r).map fun c => (⟨#[c]⟩ : Str))).cps.toList = _
    show ((#[c] ++ ("" : Str).cps) ++ (Str.join "" ((d :: r).map fun c => (⟨#[c]⟩ : Str))).cps).toList = _
    rw [Array.toList_append, ih]
    rfl
theorem str_len {z : Str} : z.length = z.cps.toList.length := by simp [Str.length]
theorem nodup_le : ∀ (T ss : List Str), T.Nodup → (∀ t ∈ T, t ∈ ss) → T.length ≤ ss.length
  | [], _, _, _ => Nat.zero_le _
  | t :: T, ss, nd, h => by
    rw [List.nodup_cons] at nd
    have ht := h t List.mem_cons_self
    have := nodup_le T (ss.erase t) nd.2 fun x hx => by
      have hne : x ≠ t := fun e => nd.1 (e ▸ hx)
      exact (List.mem_erase_of_ne hne).mpr (h x (List.mem_cons_of_mem _ hx))
    rw [List.length_erase_of_mem ht] at this
    have : 0 < ss.length := List.length_pos_of_mem ht
    rw [List.length_cons]
    omega
theorem cut7 {w : Str} : (cutS w none (some 7)).cps.toList = w.cps.toList.take (min 7 w.length) := by
  unfold cutS
  rw [HT.sIx_none, show (some (7 : Int)) = some ((7 : Nat) : Int) from rfl, HT.sIx_nat]
  simp
theorem pre_name {w : Str} {c : Nat} (hw : isName w) (hc : 97 ≤ c ∧ c ≤ 122) : isName ((⟨#[c]⟩ : Str) ++ cutS w none (some 7)) ∧ ((⟨#[c]⟩ : Str) ++ cutS w none (some 7)).cps.toList.head? = some c := by
  have e : ((⟨#[c]⟩ : Str) ++ cutS w none (some 7)).cps.toList = c :: w.cps.toList.take (min 7 w.length) := by
    show (#[c] ++ (cutS w none (some 7)).cps).toList = _
    rw [Array.toList_append, cut7]
    rfl
  refine ⟨⟨?_, ?_, ?_⟩, by rw [e]; rfl⟩
  · rw [str_len, e, List.length_cons]; omega
  · rw [str_len, e, List.length_cons, List.length_take]; omega
  · rw [e]
    intro d hd
    rcases List.mem_cons.mp hd with rfl | hd
    · exact hc
    · exact hw.2.2 d (List.mem_of_mem_take hd)
theorem sp__law_name (H : HandOk μ h a C) (hC : C ≤ 900000) {b : Addr} {ss : List Str} (hb : μ b = some (.lst (ss.map .str))) (nb : b ≠ h)
    (p : ∀ w μ', isName w → (ss.length < 26 → w ∉ ss) → HandOk μ' h a (C + 9) → Bey h μ μ' → P (.str w) μ') : (CS2 FT (k + 4)).fn F._law_name [.ref h, .ref b] μ P X := by
  refine fn_run B._law_name rfl ?_
  unfold fi__law_name
  decreasing_with simp only [↓e_comp]
  refine ⟨⟨_, rfl⟩, ?_⟩
  intro b1 hb1
  refine sp__law_any (H.sub (Sub.new hb1)) (by omega) up_same (H.ne hb1) (by simp) (by simp) ?_ fun v μ1 hv H1 B1 => ?_
  · intro v hv
    simp only [List.mem_cons, List.not_mem_nil, or_false] at hv
    rcases hv with rfl | rfl | rfl | rfl | rfl | rfl <;> exact fun xs e => nomatch e
  obtain ⟨n, n0, n1, rfl⟩ : ∃ n : Nat, 1 ≤ n ∧ n ≤ 8 ∧ v = .int (n : Int) := by
    simp only [List.mem_cons, List.not_mem_nil, or_false] at hv
    rcases hv with rfl | rfl | rfl | rfl | rfl | rfl
    · exact ⟨1, by decide, by decide, rfl⟩
    · exact ⟨1, by decide, by decide, rfl⟩
    · exact ⟨2, by decide, by decide, rfl⟩
    · exact ⟨3, by decide, by decide, rfl⟩
    · exact ⟨5, by decide, by decide, rfl⟩
    · exact ⟨8, by decide, by decide, rfl⟩
  have B0 : Bey h μ μ1 := Bey.trans (Bey.of (Sub.new hb1)) B1
  refine ⟨_, it_rng (by omega), comp_inv (I := fun pre acc μ' => ∃ cs : List Nat, acc = cs.map (fun c => PV.str ⟨#[c]⟩) ∧ cs.length = pre.length ∧ (∀ c ∈ cs, 97 ≤ c ∧ c ≤ 122) ∧ HandOk μ' h a (C + 1 + pre.length) ∧ Bey h μ μ') ?_ ?_ ?_ ?_⟩
  · exact ⟨[], rfl, rfl, (by intro c hc; cases hc), H1, B0⟩
  · intro _ _ _ _; exact it_rng (by omega)
  · rintro pre x post acc μ' Q e ⟨cs, rfl, e1, e2, H', B'⟩ hQ
    have hp : pre.length < n := by
      have := congrArg List.length e
      simp [rngItems] at this
      omega
    decreasing_trivial_pre_omega
    refine sp__law_anyS H' (by omega) (by rw [str_len, abc_ln]; omega) (by rw [str_len, abc_ln]; omega) fun c μ2 hc H2 B2 => ?_
    decreasing_trivial_pre_omega
    refine hQ _ _ ⟨cs ++ [c], by simp, by simp [e1], ?_, by rw [List.length_append]; exact H2, Bey.trans B' B2⟩
    intro d hd
    rcases List.mem_append.mp hd with hd | hd
    · exact e2 d hd
    · rw [List.mem_singleton] at hd; subst hd
      exact abc_in _ hc
  rintro acc μ2 ⟨cs, rfl, e1, e2, H2, B2⟩
  have hcs : cs.length = n := by rw [e1]; simp [rngItems]
  intro b2 hb2
  have jn : ∀ (w : Str), w.cps.toList = cs → isName w := fun w hw => ⟨by rw [str_len, hw]; omega, by rw [str_len, hw]; omega, by rw [hw]; exact e2⟩
  refine ⟨cs.map (fun c => PV.str ⟨#[c]⟩), cs.map (fun c => (⟨#[c]⟩ : Str)), by simp only [seqOf, up_same], allOf_map (f := strOf) (g := fun c : Nat => PV.str ⟨#[c]⟩) (h := fun c => (⟨#[c]⟩ : Str)) (fun _ => rfl) cs, ?_, ?_, ?_⟩
  · have : ((cs.map (fun c => (⟨#[c]⟩ : Str))).map (·.length)).sum = cs.length := by
      rw [List.map_map]
      clear e1 e2 hcs jn
      induction cs with
      | nil => rfl
      | cons c r ih => rw [List.map_cons, List.sum_cons, ih, List.length_cons]; simp [Str.length]; omega
    rw [this, List.length_map, hcs]
    have : ("" : Str).length = 0 := rfl
    rw [this]; omega
  · rw [TL.join_eq, str_len, join_ch, hcs]
    exact Nat.le_trans n1 (by decide)
  have hw0 : isName (Txt.join "" (cs.map fun c => (⟨#[c]⟩ : Str))) := jn _ (by rw [TL.join_eq, join_ch])
  generalize Txt.join "" (cs.map fun c => (⟨#[c]⟩ : Str)) = w0 at hw0 ⊢
  have B3 : Bey h μ (up μ2 b2 (.lst (cs.map fun c => PV.str ⟨#[c]⟩))) := Bey.trans B2 (Bey.of (Sub.new hb2))
  have H3 := (H2.sub (Sub.new (o := .lst (cs.map fun c => PV.str ⟨#[c]⟩)) hb2)).mono (show _ ≤ C + 9 by simp [rngItems]; omega)
  generalize up μ2 b2 (.lst (cs.map fun c => PV.str ⟨#[c]⟩)) = μ3 at B3 H3 ⊢
  decreasing_with simp only [↓s_loop']
  refine ⟨strItems abc, rfl, walk_m abc.cps.toList rfl (I := fun pre ρ μ' => (∃ w x, ρ = [some (.ref h), some (.ref b), some (.str abc), some (.str w), x, none] ∧ isName w ∧ (w ∈ ss → ∃ T : List Str, T.Nodup ∧ T.length = pre.length ∧ ∀ t ∈ T, t ∈ ss ∧ ∃ c ∈ pre, t.cps.toList.head? = some c)) ∧ μ' = μ3) ?_ ?_ ?_ ?_⟩
  · exact ⟨⟨w0, none, rfl, hw0, fun _ => ⟨[], List.nodup_nil, rfl, fun _ h => nomatch h⟩⟩, rfl⟩
  · rintro _ _ _ ⟨_, rfl⟩; rfl
  · rintro pre c post ρ μ' Q e ⟨⟨w, x, rfl, hw, hT⟩, rfl⟩ hQ
    decreasing_with simp only [↓e_slcN, ↓sl_str]
    refine c_inL (B3 b _ nb hb) ?_
    by_cases z : w ∈ ss
    · rw [decide_eq_true z]
      have hc : 97 ≤ c ∧ c ≤ 122 := abc_in c (by rw [e]; simp)
      obtain ⟨nn, nh⟩ := pre_name hw hc
      decreasing_with simp only [↓e_slcN, ↓sl_str, ↓b_addS]
      refine ⟨?_, hQ _ _ ⟨⟨_, _, rfl, nn, fun hin => ?_⟩, rfl⟩⟩
      · haveI : Tb := ⟨[], fun _ _ => False, fun _ _ h => h.elim⟩
        have h1 := cutS_length w none (some 7)
        have h2 := hw.2.1
        have : (⟨#[c]⟩ : Str).length = 1 := rfl
        have : (9 : Nat) ≤ sizeLine := by decide
        omega
      · obtain ⟨T, t1, t2, t3⟩ := hT z
        refine ⟨((⟨#[c]⟩ : Str) ++ cutS w none (some 7)) :: T, List.nodup_cons.mpr ⟨fun hm => ?_, t1⟩, by simp [t2], ?_⟩
        · obtain ⟨_, d, hd, he⟩ := t3 _ hm
          rw [nh] at he
          cases he
          have nd := abc_nd
          rw [e, List.nodup_append] at nd
          exact nd.2.2 c hd c (by simp) rfl
        · intro t ht
          rcases List.mem_cons.mp ht with rfl | ht
          · exact ⟨hin, c, by simp, nh⟩
          · obtain ⟨g1, d, g2, g3⟩ := t3 t ht
            exact ⟨g1, d, by simp [g2], g3⟩
    · rw [decide_eq_false z]
      decreasing_trivial_pre_omega
      exact hQ _ _ ⟨⟨w, _, rfl, hw, fun hin => absurd hin z⟩, rfl⟩
  · rintro ρ μ' ⟨⟨w, x, rfl, hw, hT⟩, rfl⟩
    decreasing_trivial_pre_omega
    refine rt_here (p w _ hw (fun hs hin => ?_) H3 B3)
    obtain ⟨T, t1, t2, t3⟩ := hT hin
    have := nodup_le T ss t1 fun t ht => (t3 t ht).1
    rw [t2, abc_ln] at this
    omega
end

section
variable {FT : Nat → Option FI} [B : Base FT] {k : Nat} {μ : PM} {P : Post} {X : XPost} {h a : Addr} {C : Nat}
theorem b_addL {x y : PV} {a b : List PV} (hx : lstOf μ x = some a) (hy : lstOf μ y = some b) (hl : a.length + b.length ≤ sizeLine) (p : P (.tmp (a ++ b)) μ) : binW .add x y μ P := by
  have q : ∃ a b, lstOf μ x = some a ∧ lstOf μ y = some b ∧ a.length + b.length ≤ sizeLine ∧ P (.tmp (a ++ b)) μ := ⟨a, b, hx, hy, hl, p⟩
  cases x <;> first | exact q | (cases hx; done) | skip
theorem lst_ref {b : Addr} {xs : List PV} (hb : μ b = some (.lst xs)) : lstOf μ (.ref b) = some xs := by simp only [lstOf, hb]
theorem any_new (H : HandOk μ h a C) (hC : C ≤ 1000000) {xs : List PV} (hx : xs ≠ []) (hl : xs.length ≤ 10000000) (hn : ∀ v ∈ xs, NT v) (p : ∀ v μ', v ∈ xs → HandOk μ' h a (C + 1) → Bey h μ μ' → P v μ') : ∀ b, μ b = none → (CS2 FT (k + 3)).fn F._law_any [.ref h, .ref b] (up μ b (.lst xs)) P X := by
  intro b hb
  refine sp__law_any (H.sub (Sub.new hb)) hC up_same (H.ne hb) hx hl hn fun v μ' hv H' B' => ?_
  exact p v μ' hv H' (Bey.trans (Bey.of (Sub.new hb)) B')
theorem nt_int {i : Int} : NT (.int i) := fun _ e => nomatch e
theorem nt_str {i : Str} : NT (.str i) := fun _ e => nomatch e
theorem sp__law_names (H : HandOk μ h a C) (hC : C ≤ 800000) {n : Nat} (hn : n ≤ 26) {b : Addr} (hb : μ b = some (.lst [])) (nb : b ≠ h)
    (p : ∀ (ws : List Str) μ', ws.length = n → ws.Nodup → (∀ w ∈ ws, isName w) → HandOk μ' h a (C + 9 * n) → Bey h μ μ' → P (.tup (ws.map .str)) μ') : (CS2 FT (k + 5)).fn F._law_names [.ref h, .int (n : Int), .ref b] μ P X := by
  refine fn_run B._law_names rfl ?_
  unfold fi__law_names
  decreasing_trivial_pre_omega
  intro f hf
  have nf : f ≠ h := H.ne hf
  have nfa : f ≠ a := H.neA hf
  have nbf : b ≠ f := fun e => by subst e; rw [hb] at hf; cases hf
  decreasing_with simp only [↓s_loop']
  refine ⟨_, it_rng (by omega), walk_r (List.replicate n ()) (by rw [List.length_replicate]) (I := fun pre ρ μ' => (∃ x, ρ = [some (.ref h), some (.int (n : Int)), some (.ref b), some (.ref f), x]) ∧ ∃ ws : List Str, ws.length = pre.length ∧ ws.Nodup ∧ (∀ w ∈ ws, isName w) ∧ μ' f = some (.lst (ws.map .str)) ∧ μ' b = some (.lst []) ∧ HandOk μ' h a (C + 9 * pre.length) ∧ Bey h μ μ') ?_ ?_ ?_ ?_⟩
  · exact ⟨⟨_, rfl⟩, [], rfl, List.nodup_nil, (by intro w hw; cases hw), up_same, by rw [up_ne nbf]; exact hb, H.sub (Sub.new hf), Bey.of (Sub.new hf)⟩
  · intro _ _ _ _; exact it_rng (by omega)
  · rintro pre u post ρ μ' Q e ⟨⟨x, rfl⟩, ws, w1, w2, w3, w4, w5, H1, B1⟩ hQ
    have hp : pre.length < n := by
      have := congrArg List.length e
      simp at this
      omega
    decreasing_with simp only [↓f_lstL w5]
    refine ⟨bt_lst w4 rfl, b_addL rfl (lst_ref w4) ?_ ?_⟩
    · have : (100 : Nat) ≤ sizeLine := by decide
      simp; omega
    decreasing_trivial_pre_omega
    intro g hg
    refine sp__law_name (H1.sub (Sub.new hg)) (by omega) (b := g) (ss := ws) up_same (H1.ne hg) fun w μ2 q1 q2 H2 B2 => ?_
    decreasing_trivial_pre_omega
    have B3 : Bey h μ' μ2 := Bey.trans (Bey.of (Sub.new hg)) B2
    have wf : μ2 f = some (.lst (ws.map .str)) := B3 f _ nf w4
    refine ap_lst wf (by simp; omega) ?_
    refine hQ _ _ ⟨⟨_, rfl⟩, ws ++ [w], by simp [w1], ?_, ?_, ?_, ?_, ?_, ?_⟩
    · rw [List.nodup_append]
      refine ⟨w2, by simp, fun a ha b hb => ?_⟩
      rw [List.mem_singleton] at hb
      subst hb
      intro e
      subst e
      exact q2 (by omega) ha
    · intro y hy
      rcases List.mem_append.mp hy with hy | hy
      · exact w3 y hy
      · rw [List.mem_singleton] at hy; subst hy; exact q1
    · rw [up_same, List.map_append]; rfl
    · rw [up_ne nbf]; exact B3 b _ nb w5
    · rw [List.length_append]
      exact H2.put nf nfa
    · exact (Bey.trans B1 B3).put hf
  · rintro ρ μ' ⟨⟨x, rfl⟩, ws, w1, w2, w3, w4, w5, H1, B1⟩
    decreasing_with simp only [↓f_tupL w4]
    rw [List.length_replicate] at w1 H1
    exact rt_here (p ws μ' w1 w2 w3 H1 B1)

abbrev peopleP : List PV := [.str "ann", .str "bob", .str "cid"]
theorem people_in {v : PV} (hv : v ∈ peopleP) : ∃ w : Str, v = .str w ∧ isName w := by
  simp only [peopleP, List.mem_cons, List.not_mem_nil, or_false] at hv
  rcases hv with rfl | rfl | rfl
  · exact ⟨_, rfl, by decide, by decide, by decide⟩
  · exact ⟨_, rfl, by decide, by decide, by decide⟩
  · exact ⟨_, rfl, by decide, by decide, by decide⟩
theorem in1 {Q : Int → Prop} {xs : List PV} {v : PV} {x : Int} (hx : Q x) (t : v ∈ xs → ∃ n, v = .int n ∧ Q n) (h : v ∈ PV.int x :: xs) : ∃ n, v = .int n ∧ Q n := by
  rcases List.mem_cons.mp h with rfl | h
  · exact ⟨x, rfl, hx⟩
  · exact t h
theorem in0 {Q : Int → Prop} {v : PV} (h : v ∈ ([] : List PV)) : ∃ n, v = PV.int n ∧ Q n := by cases h
theorem nt_ints {xs : List PV} (h : ∀ v ∈ xs, ∃ n, v = PV.int n ∧ True) : ∀ v ∈ xs, NT v := fun v hv => by
  obtain ⟨n, rfl, _⟩ := h v hv
  exact nt_int
/-- one of some new whole numbers -/
theorem any_newI (H : HandOk μ h a C) (hC : C ≤ 1000000) {xs : List PV} (Q : Int → Prop) (hx : xs ≠ []) (hl : xs.length ≤ 10000000) (q : ∀ v ∈ xs, ∃ n, v = .int n ∧ Q n) (p : ∀ n μ', Q n → HandOk μ' h a (C + 1) → Bey h μ μ' → P (.int n) μ') : ∀ b, μ b = none → (CS2 FT (k + 3)).fn F._law_any [.ref h, .ref b] (up μ b (.lst xs)) P X :=
  any_new H hC hx hl (nt_ints fun v hv => (q v hv).imp fun n z => ⟨z.1, trivial⟩) fun v μ' hv H' B' => by
    obtain ⟨n, rfl, hn⟩ := q v hv
    exact p n μ' hn H' B'
theorem any_I (H : HandOk μ h a C) (hC : C ≤ 1000000) {xs : List PV} {b : Addr} (hb : μ b = some (.lst xs)) (nb : b ≠ h) (Q : Int → Prop) (hx : xs ≠ []) (hl : xs.length ≤ 10000000) (q : ∀ v ∈ xs, ∃ n, v = .int n ∧ Q n) (p : ∀ n μ', Q n → HandOk μ' h a (C + 1) → Bey h μ μ' → P (.int n) μ') : (CS2 FT (k + 3)).fn F._law_any [.ref h, .ref b] μ P X :=
  sp__law_any H hC hb nb hx hl (nt_ints fun v hv => (q v hv).imp fun n z => ⟨z.1, trivial⟩) fun v μ' hv H' B' => by
    obtain ⟨n, rfl, hn⟩ := q v hv
    exact p n μ' hn H' B'
theorem any_P (H : HandOk μ h a C) (hC : C ≤ 1000000) {b : Addr} (hb : μ b = some (.lst peopleP)) (nb : b ≠ h) (p : ∀ w μ', isName w → HandOk μ' h a (C + 1) → Bey h μ μ' → P (.str w) μ') : (CS2 FT (k + 3)).fn F._law_any [.ref h, .ref b] μ P X :=
  sp__law_any H hC hb nb (by simp [peopleP]) (by simp [peopleP]) (fun v hv => by obtain ⟨w, rfl, _⟩ := people_in hv; exact nt_str) fun v μ' hv H' B' => by
    obtain ⟨w, rfl, hw⟩ := people_in hv
    exact p w μ' hw H' B'
theorem min_b {x y : Int} (h : 0 ≤ x) (g : 0 ≤ y) : 0 ≤ (if y < x then y else x) ∧ (if y < x then y else x) ≤ x := by
  split <;> omega
theorem max_b {x y : Int} : x ≤ (if x < y then y else x) ∧ y ≤ (if x < y then y else x) ∧ ((if x < y then y else x) = x ∨ (if x < y then y else x) = y) := by
  split <;> omega
end

/-- the word of a number -/
def nS (i : Int) : Str := (toString i : Str)
def numZ : Int → List Nat
  | .ofNat n => TL.numL n
  | .negSucc n => 45 :: TL.numL (n + 1)
theorem tl_nS : ∀ i : Int, (nS i).cps.toList = numZ i
  | .ofNat n => TL.tl_num n
  | .negSucc n => by
    have e : toString (Int.negSucc n) = "-" ++ toString (n + 1) := rfl
    show (Str.ofString (toString (Int.negSucc n))).cps.toList = _
    have h1 := TL.tl_ofString (toString (Int.negSucc n))
    have h2 := TL.tl_ofString (toString ((n + 1 : Nat) : Int))
    have h3 := TL.tl_num (n + 1)
    show TL.tl (Str.ofString (toString (Int.negSucc n))) = _
    rw [h1, e, String.toList_append, List.map_append]
    have h4 : TL.numL (n + 1) = (toString (n + 1)).toList.map Char.toNat := by
      rw [← h3]
      exact h2
    show _ = 45 :: TL.numL (n + 1)
    rw [h4]
    rfl
theorem cutS_take {z : Str} {n : Nat} : (cutS z none (some (n : Int))).cps.toList = z.cps.toList.take n := by
  unfold cutS
  rw [HT.sIx_none, HT.sIx_nat]
  have e : z.length = z.cps.size := rfl
  simp
  omega
theorem cutS_drop {z : Str} {n : Nat} : (cutS z (some (n : Int)) none).cps.toList = z.cps.toList.drop n := by
  unfold cutS
  rw [HT.sIx_none, HT.sIx_nat]
  have e : z.length = z.cps.size := rfl
  simp
  rcases Nat.le_total n z.length with h | h
  · rw [Nat.min_eq_left h, List.take_of_length_le (by simp; omega)]
  · rw [Nat.min_eq_right h, List.drop_of_length_le (by simp; omega), List.drop_of_length_le (by simp; omega)]
    simp
theorem num_hd {n : Nat} (h : n ≠ 0) : ∃ c r, TL.numL n = c :: r ∧ c ≠ 48 ∧ 48 ≤ c ∧ c ≤ 57 := by
  induction n using Nat.strongRecOn with
  | _ n ih =>
    by_cases q : n < 10
    · exact ⟨48 + n, [], TL.numL_lt q, by omega, by omega, by omega⟩
    · obtain ⟨c, r, e, h1, h2, h3⟩ := ih (n / 10) (by omega) (by omega)
      exact ⟨c, r ++ [48 + n % 10], by rw [TL.numL_step (by omega), e]; rfl, h1, h2, h3⟩
theorem num_dig {n c : Nat} (h : c ∈ TL.numL n) : 48 ≤ c ∧ c ≤ 57 := TL.numL_digits n c h
theorem int_nS {i : Int} (h : -1000000000 < i ∧ i < 1000000000) : PySem.intText? (nS i) = some i ∧ (nS i).length ≤ 640 := by
  have hl : (nS i).length = (numZ i).length := by rw [TL.len_tl]; exact congrArg List.length (tl_nS i)
  cases i with
  | ofNat n =>
    have h2 : (n : Int) < 1000000000 := h.2
    have l1 := TL.numL_len (n := n) (k := 9) (by decide) (by omega)
    refine ⟨TL.int_num (by omega), by rw [hl]; show (TL.numL n).length ≤ 640; omega⟩
  | negSucc n =>
    have l1 := TL.numL_len (n := n + 1) (k := 9) (by decide) (by omega)
    refine ⟨?_, by rw [hl]; show (45 :: TL.numL (n + 1)).length ≤ 640; simp; omega⟩
    have := intText_neg (x := nS (Int.negSucc n)) (cs := TL.numL (n + 1)) (tl_nS _) (TL.numL_digits _) (TL.numL_ne _) (by rw [hl]; show (45 :: TL.numL (n + 1)).length ≤ 4300; simp; omega)
    rw [this, TL.numL_val]
    rfl
theorem nS_len {i : Int} (h : -1000000000 < i ∧ i < 1000000000) : (nS i).length ≤ 10 := by
  have hl : (nS i).length = (numZ i).length := by rw [TL.len_tl]; exact congrArg List.length (tl_nS i)
  rw [hl]
  cases i with
  | ofNat n =>
    have h2 : (n : Int) < 1000000000 := h.2
    have l1 := TL.numL_len (n := n) (k := 9) (by decide) (by omega)
    show (TL.numL n).length ≤ 10
    omega
  | negSucc n =>
    have l1 := TL.numL_len (n := n + 1) (k := 9) (by decide) (by omega)
    show (45 :: TL.numL (n + 1)).length ≤ 10
    simp; omega
theorem digit_in {c : Nat} (h : 48 ≤ c ∧ c ≤ 57) : c ∈ ("0123456789" : Str).cps.toList := by
  have : ∀ c : Fin 58, 48 ≤ c.val → c.val ∈ ("0123456789" : Str).cps.toList := by decide +kernel
  exact this ⟨c, by omega⟩ h.1
theorem str_ne {x y : Str} (h : x.cps.toList ≠ y.cps.toList) : x ≠ y := fun e => h (by rw [e])
section
variable {FT : Nat → Option FI} [B : Base FT] {k n : Nat} {μ : PM} {P : Post} {X : XPost} {a b : Addr} {e : Elv}
theorem i_strN {z : Str} {n c : Nat} (hv : z.cps.toList[n]? = some c) : idxW (.str z) (.int (n : Int)) μ P = P (.str ⟨#[c]⟩) μ := by
  have e : idxW (.str z) (.int (n : Int)) μ P = ∃ c, atI z.cps.toList (n : Int) = some c ∧ P (.str ⟨#[c]⟩) μ := rfl
  rw [e]
  simp [atI_n, hv]
/-- the rest of integer_of for these digits -/
theorem se_integer_of {i : Int} (h : -1000000000 < i ∧ i < 1000000000) (p : P (.int i) μ) : (CS2 FT (k + 2)).fn F.integer_of [.str (nS i)] μ P X := by
  refine fn_run B.integer_of rfl ?_
  unfold fi_integer_of
  obtain ⟨v1, v2⟩ := int_nS h
  have tl := tl_nS i
  have fin : ∀ (d : Str) (n : Nat), d.cps.toList = TL.numL n → d.length ≤ 9 → (n = 0 → nS i = d ∧ d.length = 1) → ∀ D : PEnds, (∀ v μ', D.rt v μ' = ∃ μ'', Sub μ'' μ' ∧ P v μ'') →
      wpSs (CS2 FT (k + 1)) (fi_integer_of.body.drop 1) D [some (.str (nS i)), some (.str d), none] μ := fun d n hd hl h0 D hD => by
    unfold fi_integer_of
    have ne := TL.numL_ne n
    have l1 : 1 ≤ d.length := by rw [TL.len_tl, show TL.tl d = TL.numL n from hd]; exact List.length_pos_iff.mpr ne
    simp only [List.drop_succ_cons, List.drop_zero, startP, List.map_cons, List.map_nil, List.length_cons, List.length_nil, List.replicate_succ, List.replicate_zero, List.append_nil, List.cons_append, List.nil_append, Nat.reduceAdd, Nat.reduceSub, Nat.reduceLeDiff, List.zip_cons_cons, List.zip_nil_right, List.foldl_cons, List.foldl_nil, List.set_cons_zero, List.set_cons_succ, true_and, and_true, if_true, if_false, Bool.false_eq_true, Bool.not_true, Bool.not_false, Bool.true_eq_false, wipeP, nc, decide_true, decide_false, Int.reduceEq, Int.reduceLE, Int.reduceLT, Int.reduceNeg, Int.reduceSub, Int.reduceAdd, Int.reduceMul, Nat.reduceLT, eq_self, ↓getV_0, ↓getV_s, ↓getT_0, ↓getT_s, ↓ss_cons, ↓ss_nil, ↓s_par', ↓s_iff', ↓s_set', ↓s_ret', ↓s_retN', ↓s_ex', ↓s_brk', ↓s_cont', ↓s_pass', ↓s_setT', ↓es_cons, ↓es_nil, ↓rs_cons, ↓rs_nil, ↓e_var, ↓e_cst, ↓e_gc, ↓e_cmp, ↓e_chn, ↓e_not, ↓e_and, ↓e_or, ↓e_ite, ↓e_neg, ↓e_call, ↓e_bin, ↓e_tup', ↓e_lst', ↓m_tmp, ↓e_bf, ↓e_idx, ↓e_isi, ↓e_fld, ↓e_meth, ↓e_new, ↓e_bm, ↓e_dct, ↓e_lamc, ↓s_raise0, ↓s_try', ↓c_lt, ↓c_le, ↓c_gt, ↓c_ge, ↓c_eq, ↓c_ne, ↓c_isb, ↓c_isnb, ↓c_is, ↓c_isn, ↓c_eqb, ↓c_neb, ↓c_eqs, ↓c_nes, ↓nn_int, ↓nn_bl, ↓nn_str, ↓nn_tup, ↓nn_ref, ↓nn_non, ↓ex_bl, ↓ex_int, ↓b_add, ↓b_sub, ↓b_mul, ↓b_mod, ↓b_fdiv, ↓f_abs, ↓f_int, ↓f_lenT, ↓f_lenS, ↓f_tupT, ↓f_tupP, ↓f_min2, ↓f_min4, ↓f_max2, ↓i_tup, ↓m_int, ↓m_bl, ↓m_non, ↓m_str, ↓m_tup, ↓m_ref, ↓m_rp, ↓cs_nil, ↓cs_one, ↓a_nm, ↓a_tup, ↓as_nil, ↓as_cons, ↓up_up, ↓is_int_int, ↓is_int_bool, ↓is_int_tuple, ↓is_int_list, ↓is_int_str, ↓is_int_tuple_list, ↓is_int_dict, ↓is_int_int_str, ↓is_int_list_tuple, ↓is_int_own, ↓is_bool_int, ↓is_bool_bool, ↓is_bool_tuple, ↓is_bool_list, ↓is_bool_str, ↓is_bool_tuple_list, ↓is_bool_dict, ↓is_bool_int_str, ↓is_bool_list_tuple, ↓is_bool_own, ↓is_str_int, ↓is_str_bool, ↓is_str_tuple, ↓is_str_list, ↓is_str_str, ↓is_str_tuple_list, ↓is_str_dict, ↓is_str_int_str, ↓is_str_list_tuple, ↓is_str_own, ↓is_tuple_int, ↓is_tuple_bool, ↓is_tuple_tuple, ↓is_tuple_list, ↓is_tuple_str, ↓is_tuple_tuple_list, ↓is_tuple_dict, ↓is_tuple_int_str, ↓is_tuple_list_tuple, ↓is_tuple_own, ↓is_NoneType_int, ↓is_NoneType_bool, ↓is_NoneType_tuple, ↓is_NoneType_list, ↓is_NoneType_str, ↓is_NoneType_tuple_list, ↓is_NoneType_dict, ↓is_NoneType_int_str, ↓is_NoneType_list_tuple, ↓is_NoneType_own, ↓e_comp, ↓c_inss, ↓c_nes]
    rw [decide_eq_true (show (1 : Int) ≤ (d.length : Int) by omega), if_pos rfl, decide_eq_true (show (d.length : Int) ≤ 9 by omega)]
    rw [if_neg (by decide)]
    refine ⟨strItems d, rfl, comp_all (l := d.cps.toList) rfl rfl (fun c hc Q q => ?_) ?_⟩
    · rw [c_inss]
      refine ⟨c, rfl, ?_⟩
      decreasing_trivial_pre_omega
      rw [decide_eq_true (digit_in (num_dig (n := n) (by rw [← hd]; exact hc)))]
      exact q
    · refine ⟨true, rfl, ?_⟩
      rw [if_neg (by decide)]
      have last : bfW .int [.str (nS i)] μ fun v μ1 => mat v μ1 D.rt := by
        refine ⟨i, v1, v2, ?_⟩
        show D.rt (.int i) μ
        rw [hD]
        exact rt_here p
      by_cases z : n = 0
      · obtain ⟨e1, e2⟩ := h0 z
        subst z
        rw [show (0 : Int) = ((0 : Nat) : Int) from rfl, i_strN (c := 48) (by rw [hd, TL.numL_lt (by decide)]; rfl), c_eqs]
        refine ⟨_, rfl, ?_⟩
        rw [decide_eq_true (show (⟨#[48]⟩ : Str) = "0" from rfl), if_pos rfl, decide_eq_false (show ¬ (1 : Int) < (d.length : Int) by omega), if_neg Bool.false_ne_true, decide_eq_true e1]
        rw [if_neg (by decide)]
        exact last
      · obtain ⟨c, r, e1, e2, e3⟩ := num_hd z
        rw [show (0 : Int) = ((0 : Nat) : Int) from rfl, i_strN (c := c) (by rw [hd, e1]; rfl), c_eqs]
        refine ⟨_, rfl, ?_⟩
        rw [decide_eq_false (show ¬ (⟨#[c]⟩ : Str) = "0" from str_ne (by
          intro e
          have : [c] = [48] := e
          injection this with this
          exact e2 this)), if_neg Bool.false_ne_true]
        exact last
  have len : (nS i).length = (numZ i).length := by rw [TL.len_tl]; exact congrArg List.length tl
  show wpSs _ (_ :: fi_integer_of.body.drop 1) _ (startP 3 _) _
  decreasing_with simp only [↓e_slcN, ↓e_slcS, ↓sl_str, ↓c_eqs]
  cases i with
  | ofNat n =>
    have h2 : (n : Int) < 1000000000 := h.2
    have l1 := TL.numL_len (n := n) (k := 9) (by decide) (by omega)
    have hne : ¬ cutS (nS (Int.ofNat n)) none (some 1) = "-" := str_ne (by
      rw [show (some (1 : Int)) = some ((1 : Nat) : Int) from rfl, cutS_take, tl]
      intro e
      have hm : 45 ∈ (numZ (Int.ofNat n)).take 1 := by rw [e]; exact List.mem_cons_self
      have := num_dig (n := n) (List.mem_of_mem_take hm)
      omega)
    rw [decide_eq_false hne]
    decreasing_trivial_pre_omega
    refine fin (nS (Int.ofNat n)) n tl (by rw [len]; exact l1) (fun z => ⟨rfl, by rw [len, z]; rfl⟩) _ fun _ _ => rfl
  | negSucc n =>
    have l1 := TL.numL_len (n := n + 1) (k := 9) (by decide) (by omega)
    have heq : cutS (nS (Int.negSucc n)) none (some 1) = "-" := TL.ext_tl (by
      show (cutS (nS (Int.negSucc n)) none (some 1)).cps.toList = _
      rw [show (some (1 : Int)) = some ((1 : Nat) : Int) from rfl, cutS_take, tl]
      rfl)
    have hd : (cutS (nS (Int.negSucc n)) (some 1) none).cps.toList = TL.numL (n + 1) := by
      rw [show (some (1 : Int)) = some ((1 : Nat) : Int) from rfl, cutS_drop, tl]
      rfl
    rw [decide_eq_true heq]
    decreasing_trivial_pre_omega
    refine fin (cutS (nS (Int.negSucc n)) (some 1) none) (n + 1) hd (by rw [TL.len_tl, show TL.tl (cutS (nS (Int.negSucc n)) (some 1) none) = TL.numL (n + 1) from hd]; exact l1) (fun z => absurd z (by omega)) _ fun _ _ => rfl
end

/-- the word of a name, a number, a missing limit -/
def wdS : PV → Str
  | .non => "-"
  | .int i => nS i
  | .str x => x
  | _ => ""
def WdOk : PV → Prop
  | .non => True
  | .int i => -1000000000 < i ∧ i < 1000000000
  | .str x => x.length ≤ 10
  | _ => False
theorem wd_len {v : PV} (h : WdOk v) : (wdS v).length ≤ 10 := by
  cases v with
  | non => show ("-" : Str).length ≤ 10; decide
  | int i => exact nS_len h
  | str x => exact h
  | _ => exact h.elim
theorem WdOk.nt {v : PV} (h : WdOk v) : NT v := fun xs e => by subst e; exact h
def lineS (vs : List PV) : Str := Txt.join " " (vs.map wdS)
theorem sum_len {ss : List Str} (h : ∀ x ∈ ss, x.length ≤ 10) : (ss.map (·.length)).sum ≤ 10 * ss.length := by
  induction ss with
  | nil => simp
  | cons x r ih =>
    have h1 := h x List.mem_cons_self
    have h2 := ih fun y hy => h y (List.mem_cons_of_mem _ hy)
    rw [List.map_cons, List.sum_cons, List.length_cons]
    omega
theorem line_len {vs : List PV} (h : ∀ v ∈ vs, WdOk v) : (lineS vs).length ≤ 11 * vs.length ∧ ((vs.map wdS).map (·.length)).sum + (vs.map wdS).length * (" " : Str).length ≤ 11 * vs.length := by
  have h1 := sum_len (ss := vs.map wdS) fun x hx => by
    obtain ⟨v, hv, rfl⟩ := List.mem_map.mp hx
    exact wd_len (h v hv)
  have h2 := StrLaws.join_length_le " " (vs.map wdS)
  have e1 : (" " : Str).length = 1 := by decide
  rw [List.length_map] at h1 h2
  rw [e1] at h2 ⊢
  rw [List.length_map]
  unfold lineS
  rw [TL.join_eq]
  omega
theorem allOf_str : ∀ ss : List Str, allOf strOf (ss.map PV.str) = some ss
  | [] => rfl
  | x :: r => by
    rw [List.map_cons]
    unfold allOf
    rw [allOf_str r]
    rfl
section
variable {FT : Nat → Option FI} [B : Base FT] {k n : Nat} {μ : PM} {P : Post} {X : XPost} {a b : Addr} {e : Elv}
theorem f_strI {i : Int} (h : -1000000000 < i ∧ i < 1000000000) (p : P (.str (nS i)) μ) : bfW .str [.int i] μ P := by
  have h1 := nS_len h
  refine ⟨?_, ?_, p⟩
  · by_cases z : i.natAbs = 0
    · rw [z]; decide
    · exact Nat.lt_trans ((Nat.log2_lt z).mpr (show i.natAbs < 2 ^ 30 by omega)) (by decide)
  · have : (nS i).length ≤ 10 := h1
    exact Nat.le_trans this (by decide)
theorem se_word_of {v : PV} (h : WdOk v) (p : P (.str (wdS v)) μ) : (CS2 FT (k + 2)).fn F.word_of [v] μ P X := by
  refine fn_run B.word_of rfl ?_
  unfold fi_word_of
  decreasing_with simp only [↓m_nt h.nt]
  cases v with
  | non => decreasing_trivial_pre_omega; exact rt_here p
  | int i =>
    decreasing_trivial_pre_omega
    refine f_strI h ?_
    decreasing_trivial_pre_omega
    exact rt_here p
  | str x =>
    decreasing_trivial_pre_omega
    exact rt_here p
  | _ => exact h.elim
theorem bj_join {x : PV} {z : Str} {ss : List Str} (h1 : seqOf μ x = some (ss.map .str)) (h2 : (ss.map (·.length)).sum + ss.length * z.length ≤ 1000000) (h3 : (Txt.join z ss).length ≤ 1000000) (p : P (.str (Txt.join z ss)) μ) : bmW .join (.str z) [x] μ P :=
  ⟨_, ss, h1, allOf_str ss, by omega, Nat.le_trans h3 (by decide), p⟩
theorem se_line_of {v : PV} {vs : List PV} (hv : itS μ v = some vs) (nv : NT v) (h : ∀ w ∈ vs, WdOk w) (hl : vs.length ≤ 60) (p : P (.str (lineS vs ++ "\n")) μ) : (CS2 FT (k + 3)).fn F.line_of [v] μ P X := by
  refine fn_run B.line_of rfl ?_
  unfold fi_line_of
  decreasing_with simp only [↓m_nt nv, ↓e_comp]
  obtain ⟨l1, l2⟩ := line_len h
  have ei : itemsOf μ .seq [v] = some (vs.map id) := by rw [List.map_id]; exact hv
  refine ⟨⟨_, rfl⟩, _, ei, comp_m vs (fun w => .str (wdS w)) rfl ei (fun w hw Q q => ?_) ?_⟩
  · have nw := (h w hw).nt
    simp only [id, m_nt nw]
    refine se_word_of (h w hw) ?_
    decreasing_trivial_pre_omega
    exact q
  · intro c hc
    have e1 : vs.map (fun w => PV.str (wdS w)) = (vs.map wdS).map .str := by rw [List.map_map]; rfl
    rw [e1]
    refine bj_join (ss := vs.map wdS) (by simp only [seqOf, up_same]) (by omega) (by show (lineS vs).length ≤ _; omega) ?_
    refine ⟨?_, ?_⟩
    · show (lineS vs).length + ("\n" : Str).length ≤ sizeLine
      have : ("\n" : Str).length = 1 := by decide
      have h2 : 1000 ≤ sizeLine := by decide
      omega
    · show mat (.str (lineS vs ++ "\n")) _ _
      decreasing_trivial_pre_omega
      exact rt_sub (Sub.new hc) p
end

section
variable {FT : Nat → Option FI} [B : Base FT] {k n : Nat} {μ : PM} {P : Post} {X : XPost} {h a : Addr} {C : Nat} {e : Elv}
theorem i_tupD {xs : List PV} {j : Int} {v : PV} (hv : xs[j.toNat]? = some v) (hj : 0 ≤ j) : idxW (.tup xs) (.int j) μ P = P v μ := by
  obtain ⟨n, rfl⟩ := Int.eq_ofNat_of_zero_le hj
  exact i_at (by simpa using hv)
/-- one of a tuple -/
theorem sl_anyT (H : HandOk μ h a C) (hC : C ≤ 1000000) {xs : List PV} (hx : xs ≠ []) (hl : xs.length ≤ 10000000) (hn : ∀ v ∈ xs, NT v) (p : ∀ v μ', v ∈ xs → HandOk μ' h a (C + 1) → Bey h μ μ' → P v μ') : (CS2 FT (k + 3)).fn F._law_any [.ref h, .tup xs] μ P X := by
  refine fn_run B._law_any rfl ?_
  unfold fi__law_any
  decreasing_trivial_pre_omega
  have h0 : 0 < xs.length := List.length_pos_iff.mpr hx
  refine sp__law_draw H hC (by omega) (by omega) fun d μ' d0 d1 H' B' => ?_
  obtain ⟨v, hv⟩ : ∃ v, xs[d.toNat]? = some v := ⟨xs[d.toNat]'(by omega), List.getElem?_eq_getElem _⟩
  rw [i_tupD hv d0]
  have hm := List.mem_of_getElem? hv
  rw [m_nt (hn v hm)]
  exact rt_here (p v μ' hm H' B')
theorem any_N (H : HandOk μ h a C) (hC : C ≤ 1000000) {ps : List Str} (h0 : 1 ≤ ps.length) (h1 : ps.length ≤ 20) (hn : ∀ w ∈ ps, isName w) (p : ∀ w μ', isName w → HandOk μ' h a (C + 1) → Bey h μ μ' → P (.str w) μ') : (CS2 FT (k + 3)).fn F._law_any [.ref h, .tup (ps.map .str)] μ P X :=
  sl_anyT H hC (by intro e; have := congrArg List.length e; simp at this; subst this; simp at h0) (by simp; omega) (fun v hv => by obtain ⟨w, _, rfl⟩ := List.mem_map.mp hv; exact nt_str) fun v μ' hv H' B' => by
    obtain ⟨w, hw, rfl⟩ := List.mem_map.mp hv
    exact p w μ' (hn w hw) H' B'
def TkOk (m : Nat) (tk : List (Int × Int)) : Prop := tk.length = m ∧ ∀ p ∈ tk, 0 ≤ p.1 ∧ p.1 ≤ p.2 ∧ p.2 ≤ 1000
theorem sl_ticket (H : HandOk μ h a C) (hC : C ≤ 900000) {m : Nat} (hm : m ≤ 3) (p : ∀ tk μ', TkOk m tk → HandOk μ' h a (C + 12) → Bey h μ μ' → P (.tup (tk.map fr)) μ') : (CS2 FT (k + 5)).fn F._law_ticket [.ref h, .int (m : Int)] μ P X := by
  refine fn_run B._law_ticket rfl ?_
  unfold fi__law_ticket
  decreasing_trivial_pre_omega
  intro f hf
  have nf : f ≠ h := H.ne hf
  have nfa : f ≠ a := H.neA hf
  decreasing_with simp only [↓s_loop']
  refine ⟨_, it_rng (by omega), walk_r (List.replicate m ()) (by rw [List.length_replicate]) (I := fun pre ρ μ' => (∃ x y, ρ = [some (.ref h), some (.int (m : Int)), some (.ref f), x, y]) ∧ ∃ tk : List (Int × Int), TkOk pre.length tk ∧ μ' f = some (.lst (tk.map fr)) ∧ HandOk μ' h a (C + 4 * pre.length) ∧ Bey h μ μ') ?_ ?_ ?_ ?_⟩
  · exact ⟨⟨_, _, rfl⟩, [], ⟨rfl, (by intro w hw; cases hw)⟩, up_same, H.sub (Sub.new hf), Bey.of (Sub.new hf)⟩
  · intro _ _ _ _; exact it_rng (by omega)
  · rintro pre u post ρ μ' Q e ⟨⟨x, y, rfl⟩, tk, w1, w4, H1, B1⟩ hQ
    have hp : pre.length < m := by
      have := congrArg List.length e
      simp at this
      omega
    decreasing_trivial_pre_omega
    refine any_newI H1 (by omega) (fun n => 1 ≤ n ∧ n ≤ 1001) (by simp) (by simp) (fun v hv => in1 (by omega) (in1 (by omega) (in1 (by omega) (in1 (by omega) in0))) hv) fun n1 μ2 r1 H2 B2 => ?_
    decreasing_trivial_pre_omega
    refine sp__law_draw H2 (by omega) (by omega) (by omega) fun lo μ3 l0 l1 H3 B3 => ?_
    have B3 : Bey h μ' μ3 := Bey.trans B2 B3
    decreasing_trivial_pre_omega
    refine ⟨bt_lst (B3 f _ nf w4) rfl, ?_⟩
    decreasing_trivial_pre_omega
    refine sp__law_draw H3 (by omega) (by omega) (by omega) fun n2 μ4 l2 l3 H4 B4 => ?_
    decreasing_trivial_pre_omega
    refine any_newI H4 (by omega) (fun n => 0 ≤ n ∧ n ≤ 1001) (by simp) (by simp) (fun v hv => in1 (by omega) (in1 (by omega) (in1 (by omega) (in1 (by omega) in0))) hv) fun n3 μ5 r3 H5 B5 => ?_
    have B5 : Bey h μ' μ5 := Bey.trans B3 (Bey.trans B4 B5)
    decreasing_trivial_pre_omega
    obtain ⟨i1, i2⟩ := min_b (x := 1000) (y := lo + n3) (by omega) (by omega)
    have i3 : lo ≤ (if lo + n3 < 1000 then lo + n3 else (1000 : Int)) := by split <;> omega
    generalize (if lo + n3 < 1000 then lo + n3 else (1000 : Int)) = hi at i1 i2 i3 ⊢
    have f5 := B5 f _ nf w4
    refine ap_lst f5 (by simp [w1.1]; omega) ?_
    refine hQ _ _ ⟨⟨_, _, rfl⟩, tk ++ [(lo, hi)], ⟨by simp [w1.1], ?_⟩, ?_, ?_, ?_⟩
    · intro y hy
      rcases List.mem_append.mp hy with hy | hy
      · exact w1.2 y hy
      · rw [List.mem_singleton] at hy; subst hy; exact ⟨l0, i3, i2⟩
    · rw [up_same, List.map_append]; rfl
    · rw [List.length_append]
      exact (H5.mono (by simp; omega)).put nf nfa
    · exact (Bey.trans B1 B5).put hf
  · rintro ρ μ' ⟨⟨x, y, rfl⟩, tk, w1, w4, H1, B1⟩
    decreasing_with simp only [↓f_tupL w4]
    rw [List.length_replicate] at w1 H1
    exact rt_here (p tk μ' w1 (H1.mono (by omega)) B1)
end

def tl_st1 : List S := fi__law_stock.body.drop 1
def tl_st2 : List S := fi__law_stock.body.drop 2
abbrev stockP (e : Elv) : PV := .tup [.tup (e.ms.map .str), .tup (e.lots.map lotP), dryP e, .int e.st]
section
variable {FT : Nat → Option FI} [B : Base FT] {k n : Nat} {μ : PM} {P : Post} {X : XPost} {h a : Addr} {C : Nat} {e : Elv}
theorem sl_stock (H : HandOk μ h a C) (hC : C ≤ 700000) {m nl days : Nat} (m0 : 1 ≤ m) (m1 : m ≤ 3) (hnl : nl ≤ 12) (d0 : 1 ≤ days) (d1 : days ≤ 20) {wide : Int} (w0 : 1 ≤ wide) (w1 : wide ≤ 1000000) {ps : List Str} (p0 : 1 ≤ ps.length) (p1 : ps.length ≤ 20) (pn : ∀ w ∈ ps, isName w)
    (p : ∀ e μ', Right e → e.odrs = [] → e.ms.length = m → e.lots.length = nl → e.rooms.length = days → HandOk μ' h a (C + 500) → Bey h μ μ' → P (stockP e) μ') : (CS2 FT (k + 6)).fn F._law_stock [.ref h, .int (m : Int), .int (nl : Int), .int (days : Int), .int wide, .tup (ps.map .str)] μ P X := by
  refine fn_run B._law_stock rfl ?_
  show wpSs _ (_ :: tl_st1) _ (startP 13 _) _
  decreasing_with simp only [↓e_comp]
  intro b0 hb0
  refine sp__law_names (H.sub (Sub.new hb0)) (by omega) (n := nl) (by omega) up_same (H.ne hb0) fun ws μ1 l1 l2 l3 H1 B1 => ?_
  have B1 : Bey h μ μ1 := Bey.trans (Bey.of (Sub.new hb0)) B1
  decreasing_with simp only [↓e_comp]
  intro f hf
  have nf := H1.ne hf
  have nfa := H1.neA hf
  have H2 := H1.sub (Sub.new (o := .lst []) hf)
  have B2 : Bey h μ (up μ1 f (.lst [])) := Bey.trans B1 (Bey.of (Sub.new hf))
  have mf : up μ1 f (.lst []) f = some (.lst []) := up_same
  have hf0 : μ f = none := by
    cases z : μ f with
    | none => rfl
    | some o => have := B1 f o nf z; rw [hf] at this; cases this
  generalize up μ1 f (.lst []) = μ2 at H2 B2 mf ⊢
  show wpSs _ (_ :: tl_st2) _ _ _
  decreasing_with simp only [↓s_loop']
  refine ⟨_, rfl, walk_m ws rfl (I := fun pre ρ μ' => (∃ x y, ρ = [some (.ref h), some (.int (m : Int)), some (.int (nl : Int)), some (.int (days : Int)), some (.int wide), some (.tup (ps.map .str)), x, none, none, some (.tup (ws.map .str)), some (.ref f), y, none]) ∧
    ∃ ls : List Lot, ls.map (·.name) = pre ∧ (∀ l ∈ ls, RtLot m days l) ∧ μ' f = some (.lst (ls.map lotP)) ∧ HandOk μ' h a (C + 9 * nl + 15 * pre.length) ∧ Bey h μ μ') ?_ ?_ ?_ ?_⟩
  · exact ⟨⟨_, _, rfl⟩, [], rfl, (by intro w hw; cases hw), mf, H2, B2⟩
  · intro _ _ _ _; rfl
  · rintro pre w post ρ μ' Q e ⟨⟨x, y, rfl⟩, ls, q1, q2, q3, H5, B5⟩ hQ
    have hp : pre.length < nl := by
      have := congrArg List.length e
      simp at this
      omega
    have hwn : isName w := l3 w (by rw [e]; simp)
    have hls : ls.length = pre.length := by rw [← q1]; simp
    decreasing_trivial_pre_omega
    refine sp__law_draw H5 (by omega) (by omega) (by omega) fun n1 μ6 r0 r1 H6 B6 => ?_
    decreasing_trivial_pre_omega
    refine ⟨bt_lst (B6 f _ nf q3) rfl, ?_⟩
    decreasing_trivial_pre_omega
    refine any_N H6 (by omega) p0 p1 pn fun ow μ7 how H7 B7 => ?_
    decreasing_trivial_pre_omega
    refine sp__law_draw H7 (by omega) (by omega) (by omega) fun dy μ8 s0 s1 H8 B8 => ?_
    decreasing_trivial_pre_omega
    refine sl_ticket H8 (by omega) m1 fun tk μ9 ht H9 B9 => ?_
    have B9 : Bey h μ' μ9 := Bey.trans B6 (Bey.trans B7 (Bey.trans B8 B9))
    decreasing_trivial_pre_omega
    refine ap_lst (B9 f _ nf q3) (by simp; omega) ?_
    refine hQ _ _ ⟨⟨_, _, rfl⟩, ls ++ [⟨w, ow, dy, 1 + n1, tk⟩], by simp [q1], ?_, ?_, ?_, ?_⟩
    · intro l hl
      rcases List.mem_append.mp hl with hl | hl
      · exact q2 l hl
      · rw [List.mem_singleton] at hl; subst hl
        exact ⟨hwn, how, by simp only; omega, by simp only; omega, ht.1, ht.2⟩
    · rw [up_same, List.map_append]; rfl
    · rw [List.length_append]
      exact (H9.mono (by simp; omega)).put nf nfa
    · exact (Bey.trans B5 B9).put hf0
  rintro ρ μ3 ⟨⟨x, y, rfl⟩, ls, q1, q2, q3, H3, B3⟩
  have hls : ls.length = nl := by rw [← l1, ← q1]; simp
  rw [l1] at H3
  show wpSs _ [_, _, _] _ _ _
  decreasing_with simp only [↓e_comp]
  refine ⟨_, it_rng (n := days) (by omega), comp_inv (I := fun pre acc μ' => ∃ ms : List Int, acc = ms.map .int ∧ ms.length = pre.length ∧ (∀ m ∈ ms, 0 ≤ m ∧ m ≤ 1000000) ∧ HandOk μ' h a (C + 9 * nl + 15 * nl + 2 * pre.length) ∧ Bey h μ3 μ') ?_ ?_ ?_ ?_⟩
  · exact ⟨[], rfl, rfl, (by intro w hw; cases hw), H3, Bey.refl⟩
  · intro _ _ _ _; exact it_rng (n := days) (by omega)
  · rintro pre x post acc μ' Q e ⟨cs, rfl, e1, e2, H', B'⟩ hQ
    have hp : pre.length < days := by
      have := congrArg List.length e
      simp [rngItems] at this
      omega
    decreasing_trivial_pre_omega
    refine sp__law_draw H' (by omega) (by omega) (by omega) fun n2 μ4 r0 r1 H4 B4 => ?_
    decreasing_trivial_pre_omega
    refine any_newI H4 (by omega) (fun n => 0 ≤ n ∧ n ≤ 1000000) (by simp) (by simp) (fun v hv => in1 (by omega) (in1 (by omega) (in1 (by omega) (in1 (by omega) in0))) hv) fun n μ5 hn H5 B5 => ?_
    refine hQ _ _ ⟨cs ++ [n], by simp, by simp [e1], ?_, by rw [List.length_append]; exact H5, Bey.trans B' (Bey.trans B4 B5)⟩
    intro m hm
    rcases List.mem_append.mp hm with hm | hm
    · exact e2 m hm
    · rw [List.mem_singleton] at hm; subst hm; omega
  rintro acc μ4 ⟨rooms, rfl, k1, k2, H4, B4⟩
  have k1' : rooms.length = days := by rw [k1]; simp [rngItems]
  have k3 : (rngItems 0 days).length = days := by simp [rngItems]
  rw [k3] at H4
  decreasing_trivial_pre_omega
  refine any_N H4 (by omega) p0 p1 pn fun own μ5 hown H5 B5 => ?_
  decreasing_trivial_pre_omega
  refine sp__law_draw H5 (by omega) (by omega) (by omega) fun n2 μ6 r0 r1 H6 B6 => ?_
  decreasing_trivial_pre_omega
  refine any_newI H6 (by omega) (fun n => 0 ≤ n ∧ n ≤ 1000000) (by simp) (by simp) (fun v hv => in1 (by omega) (in1 (by omega) (in1 (by omega) (in1 (by omega) in0))) hv) fun cost μ7 hcost H7 B7 => ?_
  decreasing_trivial_pre_omega
  intro b9 hb9
  refine sp__law_names (H7.sub (Sub.new hb9)) (by omega) (n := m) (by omega) up_same (H7.ne hb9) fun ms μ8 n1 n2 n3 H8 B8 => ?_
  have B8 : Bey h μ3 μ8 := Bey.trans B4 (Bey.trans B5 (Bey.trans B6 (Bey.trans B7 (Bey.trans (Bey.of (Sub.new hb9)) B8))))
  decreasing_with simp only [↓f_tupL (B8 f _ nf q3)]
  refine any_newI H8 (by omega) (fun n => 0 ≤ n ∧ n ≤ 1000000) (by simp) (by simp) (fun v hv => in1 (by omega) (in1 (by omega) (in1 (by omega) (in1 (by omega) in0))) hv) fun st μ9 hst H9 B9 => ?_
  decreasing_trivial_pre_omega
  refine rt_here (p ⟨ms, ls, [], own, cost, rooms, st⟩ μ9 ?_ rfl n1 hls k1' (H9.mono (by omega)) (Bey.trans B3 (Bey.trans B8 B9)))
  refine ⟨by simp only; omega, n3, n2, hown, hcost, by simp only; omega, k2, by simp only; omega, ?_, ?_, by simp, fun _ z => (nomatch z), by simp, hst⟩
  · simp only
    rw [n1, k1']
    exact q2
  · simp only
    rw [q1]
    exact l2
end

/-- the values of a lot's line, an order's, the first lines' -/
def lotV (l : Lot) : List PV := [.str "lot", .str l.name, .str l.owner, .int l.day, .int l.w] ++ (l.tk.map fun p => [PV.int p.1, .int p.2]).flatten
def odrV (o : Odr) : List PV := [.str "order", .str o.name, .str o.owner, .int o.day, .int o.least, .int o.most, .int o.price] ++ (o.lims.map fun p => [optP p.1, optP p.2]).flatten
def headV (e : Elv) : List (List PV) := [.str "measures" :: e.ms.map .str, [.str "dryer", .str e.own, .int e.cost] ++ e.rooms.map .int, [.str "storing", .int e.st]]
def rowsV (e : Elv) : List (List PV) := headV e ++ e.lots.map lotV ++ e.odrs.map odrV
def lineN (vs : List PV) : Str := lineS vs ++ "\n"
def textE (e : Elv) : Str := Txt.join "" ((rowsV e).map lineN)
theorem name_len {x : Str} (h : isName x) : WdOk (.str x) := by have := h.2.1; show x.length ≤ 10; omega
theorem wd_optP {o : Option Int} (h : ∀ i, o = some i → 0 ≤ i ∧ i ≤ 1000) : WdOk (optP o) := by
  cases o with
  | none => exact trivial
  | some i => have := h i rfl; show -1000000000 < i ∧ i < 1000000000; omega
theorem lotV_ok {m d : Nat} {l : Lot} (r : RtLot m d l) (hd : d ≤ 20) : ∀ v ∈ lotV l, WdOk v := fun v hv => by
  have h1 := r.day
  have h2 := r.w
  rcases List.mem_append.mp hv with hv | hv
  · simp only [List.mem_cons, List.not_mem_nil, or_false] at hv
    rcases hv with rfl | rfl | rfl | rfl | rfl
    · show ("lot" : Str).length ≤ 10; decide
    · exact name_len r.name
    · exact name_len r.owner
    · show -1000000000 < l.day ∧ l.day < 1000000000; omega
    · show -1000000000 < l.w ∧ l.w < 1000000000; omega
  · rw [List.mem_flatten] at hv
    obtain ⟨q, hq, hv⟩ := hv
    obtain ⟨p, hp, rfl⟩ := List.mem_map.mp hq
    have := r.tk p hp
    simp only [List.mem_cons, List.not_mem_nil, or_false] at hv
    rcases hv with rfl | rfl
    · show -1000000000 < p.1 ∧ p.1 < 1000000000; omega
    · show -1000000000 < p.2 ∧ p.2 < 1000000000; omega
theorem odrV_ok {m d : Nat} {o : Odr} (r : RtOdr m d o) (hd : d ≤ 20) : ∀ v ∈ odrV o, WdOk v := fun v hv => by
  have h1 := r.day
  have h2 := r.least
  have h3 := r.most
  have h4 := r.price
  rcases List.mem_append.mp hv with hv | hv
  · simp only [List.mem_cons, List.not_mem_nil, or_false] at hv
    rcases hv with rfl | rfl | rfl | rfl | rfl | rfl | rfl
    · show ("order" : Str).length ≤ 10; decide
    · exact name_len r.name
    · exact name_len r.owner
    · show -1000000000 < o.day ∧ o.day < 1000000000; omega
    · show -1000000000 < o.least ∧ o.least < 1000000000; omega
    · show -1000000000 < o.most ∧ o.most < 1000000000; omega
    · show -1000000000 < o.price ∧ o.price < 1000000000; omega
  · rw [List.mem_flatten] at hv
    obtain ⟨q, hq, hv⟩ := hv
    obtain ⟨p, hp, rfl⟩ := List.mem_map.mp hq
    have := r.lims p hp
    simp only [List.mem_cons, List.not_mem_nil, or_false] at hv
    rcases hv with rfl | rfl
    · exact wd_optP this.1
    · exact wd_optP this.2.1
theorem flat2_len {β : Type} {f g : β → PV} {l : List β} : (l.map fun p => [f p, g p]).flatten.length = 2 * l.length := by
  induction l with
  | nil => rfl
  | cons x r ih => rw [List.map_cons, List.flatten_cons, List.length_append, ih, List.length_cons]; simp; omega
theorem rows_ok {e : Elv} (R : Right e) : ∀ r ∈ rowsV e, (∀ v ∈ r, WdOk v) ∧ r.length ≤ 30 := fun r hr => by
  have ms := R.ms
  have rl := R.rl
  unfold rowsV headV at hr
  rcases List.mem_append.mp hr with hr | hr
  · rcases List.mem_append.mp hr with hr | hr
    · simp only [List.mem_cons, List.not_mem_nil, or_false] at hr
      rcases hr with rfl | rfl | rfl
      · refine ⟨fun v hv => ?_, by simp; omega⟩
        rcases List.mem_cons.mp hv with rfl | hv
        · show ("measures" : Str).length ≤ 10; decide
        · obtain ⟨m, hm, rfl⟩ := List.mem_map.mp hv
          exact name_len (R.mn m hm)
      · refine ⟨fun v hv => ?_, by simp; omega⟩
        have := R.cost
        rcases List.mem_append.mp hv with hv | hv
        · simp only [List.mem_cons, List.not_mem_nil, or_false] at hv
          rcases hv with rfl | rfl | rfl
          · show ("dryer" : Str).length ≤ 10; decide
          · exact name_len R.own
          · show -1000000000 < e.cost ∧ e.cost < 1000000000; omega
        · obtain ⟨m, hm, rfl⟩ := List.mem_map.mp hv
          have := R.rooms m hm
          show -1000000000 < m ∧ m < 1000000000; omega
      · refine ⟨fun v hv => ?_, by simp⟩
        have := R.st
        simp only [List.mem_cons, List.not_mem_nil, or_false] at hv
        rcases hv with rfl | rfl
        · show ("storing" : Str).length ≤ 10; decide
        · show -1000000000 < e.st ∧ e.st < 1000000000; omega
    · obtain ⟨l, hl, rfl⟩ := List.mem_map.mp hr
      have r := R.lots l hl
      refine ⟨lotV_ok r (by omega), ?_⟩
      unfold lotV
      rw [List.length_append, flat2_len, r.tl]
      simp; omega
  · obtain ⟨l, hl, rfl⟩ := List.mem_map.mp hr
    have r := R.odrs l hl
    refine ⟨odrV_ok r (by omega), ?_⟩
    unfold odrV
    rw [List.length_append, flat2_len, r.tl]
    simp; omega
theorem sum_le_n {b : Nat} {ss : List Str} (h : ∀ x ∈ ss, x.length ≤ b) : (ss.map (·.length)).sum ≤ b * ss.length := by
  induction ss with
  | nil => simp
  | cons x r ih =>
    have h1 := h x List.mem_cons_self
    have h2 := ih fun y hy => h y (List.mem_cons_of_mem _ hy)
    rw [List.map_cons, List.sum_cons, List.length_cons, Nat.mul_add]
    omega
theorem text_len {e : Elv} (R : Right e) : (((rowsV e).map lineN).map (·.length)).sum ≤ 7613 ∧ ((rowsV e).map lineN).length ≤ 23 ∧ (textE e).length ≤ 7613 := by
  have ll := R.ll
  have ol := R.ol
  have h1 := sum_le_n (b := 331) (ss := (rowsV e).map lineN) fun x hx => by
    obtain ⟨r, hr, rfl⟩ := List.mem_map.mp hx
    obtain ⟨o1, o2⟩ := rows_ok R r hr
    have := (line_len o1).1
    have e1 : ("\n" : Str).length = 1 := by decide
    unfold lineN
    rw [Str.length_append, e1]
    omega
  have h2 : ((rowsV e).map lineN).length ≤ 23 := by
    rw [List.length_map]
    unfold rowsV headV
    simp
    omega
  have h3 := StrLaws.join_length_le "" ((rowsV e).map lineN)
  have e0 : ("" : Str).length = 0 := by decide
  rw [e0] at h3
  unfold textE
  rw [TL.join_eq]
  omega
section
variable {FT : Nat → Option FI} [B : Base FT] {k n : Nat} {μ : PM} {P : Post} {X : XPost} {a b : Addr} {e : Elv}
theorem e_flat {C : Calls} {ρ : PE_} {i j : Nat} {own : List Nat} {s : E} : wpE C (.flat i j own s) ρ μ P X = wpE C s ρ μ (fun v μ1 => ∃ xss : List (List PV), v = .tup (xss.map .tup) ∧ xss.flatten.length ≤ 1000 ∧ i < ρ.length ∧ j < ρ.length ∧ P (.tmp xss.flatten) μ1) X := by simp only [wpE]
theorem cut4l {a b c d e : PV} : cutP [a, b, c, d, e] none (some 4) = [a, b, c, d] := rfl
theorem cut6o {a b c d e f g : PV} : cutP [a, b, c, d, e, f, g] none (some 6) = [a, b, c, d, e, f] := rfl
theorem b_addTT {xs ys : List PV} (hl : xs.length + ys.length ≤ 1000) (p : P (.tmp (xs ++ ys)) μ) : binW .add (.tmp xs) (.tmp ys) μ P :=
  ⟨xs, ys, rfl, rfl, Nat.le_trans hl (by decide), p⟩
theorem sub_put {μ' : PM} {b : Addr} {o : PO} (s : Sub μ μ') (n : μ b = none) : Sub μ (up μ' b o) := fun y q e => by
  have ny : y ≠ b := fun z => by subst z; rw [n] at e; cases e
  rw [up_ne ny]
  exact s y q e
theorem se_text (h : IsE μ a e) (R : Right e) (p : ∀ μ', Sub μ μ' → P (.str (textE e)) μ') : (CS2 FT (k + 5)).fn F.elevator_text [.ref a] μ P X := by
  have ms := R.ms
  have rl := R.rl
  have hok := rows_ok R
  have hsz : 1000 ≤ sizeLine := by decide
  refine fn_run B.elevator_text rfl ?_
  unfold fi_elevator_text
  decreasing_trivial_pre_omega
  refine se_check_elevator h ?_
  decreasing_with simp only [↓fe_dr h, ↓fe_ms h, ↓b_addT, ↓fe_st h]
  have mem0 : ∀ r ∈ headV e, (∀ v ∈ r, WdOk v) ∧ r.length ≤ 30 := fun r hr => hok r (by unfold rowsV; simp only [List.mem_append]; exact .inl (.inl hr))
  refine ⟨by simp; omega, ?_⟩
  refine se_line_of (k := k + 1) (vs := .str "measures" :: e.ms.map .str) rfl (fun _ z => nomatch z) (mem0 _ (by simp [headV])).1 (by have := (mem0 (.str "measures" :: e.ms.map .str) (by simp [headV])).2; omega) ?_
  decreasing_trivial_pre_omega
  refine ⟨by simp; omega, ?_⟩
  refine se_line_of (k := k + 1) (vs := [.str "dryer", .str e.own, .int e.cost] ++ e.rooms.map .int) rfl (fun _ z => nomatch z) (mem0 _ (by simp [headV])).1 (by have := (mem0 ([.str "dryer", .str e.own, .int e.cost] ++ e.rooms.map .int) (by simp [headV])).2; omega) ?_
  decreasing_trivial_pre_omega
  intro c hc
  have sc := Sub.new (o := .lst [PV.str (lineS (.str "measures" :: e.ms.map .str) ++ "\n"), .str (lineS (.str "dryer" :: .str e.own :: .int e.cost :: e.rooms.map .int) ++ "\n")]) hc
  have fc : up μ c (.lst [PV.str (lineS (.str "measures" :: e.ms.map .str) ++ "\n"), .str (lineS (.str "dryer" :: .str e.own :: .int e.cost :: e.rooms.map .int) ++ "\n")]) c = some (.lst [PV.str (lineS (.str "measures" :: e.ms.map .str) ++ "\n"), .str (lineS (.str "dryer" :: .str e.own :: .int e.cost :: e.rooms.map .int) ++ "\n")]) := up_same
  have h1 := h.sub sc
  have nac : a ≠ c := fun z => by subst z; rw [h] at hc; cases hc
  refine ⟨bt_lst fc rfl, ?_⟩
  try decreasing_with simp only [↓fe_st h1]
  refine se_line_of (k := k + 1) (vs := [.str "storing", .int e.st]) rfl (fun _ z => nomatch z) (mem0 _ (by simp [headV])).1 (by simp) ?_
  decreasing_trivial_pre_omega
  refine ap_lst fc (by simp) ?_
  generalize hM : up (up μ c (.lst [PV.str (lineS (.str "measures" :: e.ms.map .str) ++ "\n"), .str (lineS (.str "dryer" :: .str e.own :: .int e.cost :: e.rooms.map .int) ++ "\n")])) c (.lst ([PV.str (lineS (.str "measures" :: e.ms.map .str) ++ "\n"), .str (lineS (.str "dryer" :: .str e.own :: .int e.cost :: e.rooms.map .int) ++ "\n")] ++ [PV.str (lineS [.str "storing", .int e.st] ++ "\n")])) = μ1
  have f1 : μ1 c = some (.lst (((headV e).map lineN).map .str)) := by rw [← hM, up_same]; rfl
  have s1 : Sub μ μ1 := by
    rw [← hM, up_up]
    exact Sub.new hc
  clear hM fc sc h1
  decreasing_with simp only [↓s_loop', ↓fe_lots (h.sub s1)]
  refine ⟨_, rfl, walk_m e.lots rfl (I := fun pre ρ μ' => (∃ x2 x3 x4 x5 x6 x7 x8, ρ = [some (.ref a), some (.ref c), x2, x3, x4, x5, x6, x7, x8]) ∧ μ' c = some (.lst (((headV e ++ pre.map lotV).map lineN).map .str)) ∧ Sub μ μ') ?_ ?_ ?_ ?_⟩
  · exact ⟨⟨_, _, _, _, _, _, _, rfl⟩, by simpa using f1, s1⟩
  · intro _ _ _ _; rfl
  · rintro pre l post ρ μ' Q eq ⟨⟨x2, x3, x4, x5, x6, x7, x8, rfl⟩, f2, s2⟩ hQ
    have r := R.lots l (by rw [eq]; simp)
    have hp : pre.length < e.lots.length := by rw [eq]; simp
    have ll := R.ll
    decreasing_with simp only [↓e_flat, ↓e_slcN, ↓sl_tup, ↓f_lstT]
    refine ⟨bt_lst f2 rfl, ?_⟩
    rw [cut4l]
    refine b_addTT (by simp) ?_
    have el : PV.tup (l.tk.map fr) = .tup ((l.tk.map fun p => [PV.int p.1, .int p.2]).map .tup) := by rw [List.map_map]; rfl
    refine ⟨_, el, by rw [flat2_len]; have := r.tl; omega, ?_⟩
    refine b_addTT (by rw [flat2_len]; have := r.tl; simp; omega) ?_
    decreasing_trivial_pre_omega
    intro b hb
    have sb := Sub.new (o := .lst (lotV l)) hb
    refine se_line_of (k := k + 1) (vs := lotV l) (by simp only [itS, seqOf, up_same]; rfl) (fun _ z => nomatch z) (lotV_ok r (by omega)) (by unfold lotV; rw [List.length_append, flat2_len]; have := r.tl; simp; omega) ?_
    decreasing_trivial_pre_omega
    have f3 := sb _ _ f2
    refine ap_lst f3 (by simp [headV]; omega) ?_
    refine hQ _ _ ⟨⟨_, _, _, _, _, _, _, rfl⟩, ?_, sub_put (Sub.trans s2 sb) hc⟩
    rw [up_same]
    simp only [List.map_append, List.map_cons, List.map_nil, List.append_assoc]
    rfl
  rintro ρ μ2 ⟨⟨x2, x3, x4, x5, x6, x7, x8, rfl⟩, f2, s2⟩
  have ol := R.ol
  have ll := R.ll
  try decreasing_with simp only [↓s_loop', ↓fe_os (h.sub s2)]
  refine ⟨_, rfl, walk_m e.odrs rfl (I := fun pre ρ μ' => (∃ x2 x3 x4 x5 x6 x7 x8, ρ = [some (.ref a), some (.ref c), x2, x3, x4, x5, x6, x7, x8]) ∧ μ' c = some (.lst (((headV e ++ e.lots.map lotV ++ pre.map odrV).map lineN).map .str)) ∧ Sub μ μ') ?_ ?_ ?_ ?_⟩
  · exact ⟨⟨_, _, _, _, _, _, _, rfl⟩, by simpa using f2, s2⟩
  · intro _ _ _ _; rfl
  · rintro pre l post ρ μ' Q eq ⟨⟨x2, x3, x4, x5, x6, x7, x8, rfl⟩, f2, s2⟩ hQ
    have r := R.odrs l (by rw [eq]; simp)
    have hp : pre.length < e.odrs.length := by rw [eq]; simp
    decreasing_with simp only [↓e_flat, ↓e_slcN, ↓sl_tup, ↓f_lstT]
    refine ⟨bt_lst f2 rfl, ?_⟩
    rw [cut6o]
    refine b_addTT (by simp) ?_
    have el : PV.tup (l.lims.map limP) = .tup ((l.lims.map fun p => [optP p.1, optP p.2]).map .tup) := by rw [List.map_map]; rfl
    refine ⟨_, el, by rw [flat2_len]; have := r.tl; omega, ?_⟩
    refine b_addTT (by rw [flat2_len]; have := r.tl; simp; omega) ?_
    decreasing_trivial_pre_omega
    intro b hb
    have sb := Sub.new (o := .lst (odrV l)) hb
    refine se_line_of (k := k + 1) (vs := odrV l) (by simp only [itS, seqOf, up_same]; rfl) (fun _ z => nomatch z) (odrV_ok r (by omega)) (by unfold odrV; rw [List.length_append, flat2_len]; have := r.tl; simp; omega) ?_
    decreasing_trivial_pre_omega
    have f3 := sb _ _ f2
    refine ap_lst f3 (by simp [headV]; omega) ?_
    refine hQ _ _ ⟨⟨_, _, _, _, _, _, _, rfl⟩, ?_, sub_put (Sub.trans s2 sb) hc⟩
    rw [up_same]
    simp only [List.map_append, List.map_cons, List.map_nil, List.append_assoc]
    rfl
  · rintro ρ μ3 ⟨⟨x2, x3, x4, x5, x6, x7, x8, rfl⟩, f3, s3⟩
    decreasing_trivial_pre_omega
    obtain ⟨t1, t2, t3⟩ := text_len R
    have e0 : ("" : Str).length = 0 := by decide
    refine ⟨⟨_, rfl⟩, bj_join (ss := (rowsV e).map lineN) (by simp only [seqOf, f3]; rfl) (by rw [e0]; omega) (by show (textE e).length ≤ _; omega) ?_⟩
    show mat (.str (textE e)) _ _
    decreasing_trivial_pre_omega
    exact rt_here (p μ3 s3)
end

theorem join_cons {x : Str} {ss : List Str} (h : ss ≠ []) : Txt.join " " (x :: ss) = (x ++ " ") ++ Txt.join " " ss := by
  refine TL.ext_tl ?_
  rw [TL.tl_append, TL.join_eq, TL.join_eq, TL.tl_join, TL.tl_join, TL.tl_append]
  cases ss with
  | nil => exact absurd rfl h
  | cons y r =>
    show TL.joinL _ (TL.tl x :: TL.tl y :: r.map TL.tl) = _
    simp [TL.joinL]
theorem map_wd_str (ss : List Str) : (ss.map PV.str).map wdS = ss := by
  rw [List.map_map]
  conv => rhs; rw [← List.map_id ss]
  rfl
theorem line_ms {e : Elv} (R : Right e) : ("measures " : Str) ++ Txt.join " " e.ms = lineS (.str "measures" :: e.ms.map .str) := by
  unfold lineS
  rw [List.map_cons, map_wd_str, join_cons (by have := R.ms; intro z; rw [z] at this; simp at this)]
  rfl
theorem line_st {e : Elv} : ("storing " : Str) ++ nS e.st = lineS [.str "storing", .int e.st] := by
  unfold lineS
  show _ = Txt.join " " ["storing", nS e.st]
  rw [join_cons (by simp)]
  have : Txt.join " " [nS e.st] = nS e.st := by rw [TL.join_eq]; rfl
  rw [this]
  rfl
theorem lotV_words {l : Lot} : (lotV l).map wdS = [("lot" : Str), l.name, l.owner, nS l.day, nS l.w] ++ (l.tk.map fun p => [nS p.1, nS p.2]).flatten := by
  unfold lotV
  rw [List.map_append, List.map_flatten, List.map_map]
  rfl
theorem odrV_words {o : Odr} : (odrV o).map wdS = [("order" : Str), o.name, o.owner, nS o.day, nS o.least, nS o.most, nS o.price] ++ (o.lims.map fun p => [wdS (optP p.1), wdS (optP p.2)]).flatten := by
  unfold odrV
  rw [List.map_append, List.map_flatten, List.map_map]
  rfl
theorem flat2_lenS {β : Type} {f g : β → Str} {l : List β} : (l.map fun p => [f p, g p]).flatten.length = 2 * l.length := by
  induction l with
  | nil => rfl
  | cons x r ih => rw [List.map_cons, List.flatten_cons, List.length_append, ih, List.length_cons]; simp; omega
section
variable {FT : Nat → Option FI} [B : Base FT] {k n : Nat} {μ : PM} {P : Post} {X : XPost} {a b : Addr} {e : Elv}
theorem e_slcB {C : Calls} {ρ : PE_} {o lo hi : E} : wpE C (.slc o (some lo) (some hi)) ρ μ P X = wpE C o ρ μ (fun x μ1 => wpE C lo ρ μ1 (fun u μ2 => ∃ i, u = .int i ∧ wpE C hi ρ μ2 (fun v μ3 => ∃ j, v = .int j ∧ slcW x (some i) (some j) μ3 P) X) X) X := by simp only [wpE, wpO]
theorem sl_text (R : Right e) (p : ∀ μ', Sub μ μ' → P (.str (textE e)) μ') : (CS2 FT (k + 2)).fn F._law_text [specE e] μ P X := by
  have ms := R.ms
  have rl := R.rl
  have hok := rows_ok R
  refine fn_run B._law_text rfl ?_
  unfold fi__law_text
  have mem0 : ∀ r ∈ headV e, (∀ v ∈ r, WdOk v) ∧ r.length ≤ 30 := fun r hr => hok r (by unfold rowsV; simp only [List.mem_append]; exact .inl (.inl hr))
  have hsz : 1000 ≤ sizeLine := by decide
  have cst := R.cost
  have stt := R.st
  have sb1 := sum_len (ss := e.ms) fun x hx => by have := (R.mn x hx).2.1; omega
  have jb := StrLaws.join_length_le " " e.ms
  have e1 : (" " : Str).length = 1 := by decide
  have e9 : ("measures " : Str).length = 9 := by decide
  have e8 : ("storing " : Str).length = 8 := by decide
  rw [e1] at jb
  decreasing_with simp only [↓e_comp]
  refine ⟨⟨_, rfl⟩, bj_join (ss := e.ms) rfl (by rw [e1]; omega) (by rw [TL.join_eq]; omega) ?_⟩
  refine ⟨by rw [e9, TL.join_eq]; omega, ?_⟩
  rw [line_ms R]
  try decreasing_with simp only [↓e_comp]
  intro c hc
  have sc := Sub.new (o := .lst [PV.str (lineS (.str "measures" :: e.ms.map .str))]) hc
  have fc : up μ c (.lst [PV.str (lineS (.str "measures" :: e.ms.map .str))]) c = some (.lst [PV.str (lineS (.str "measures" :: e.ms.map .str))]) := up_same
  refine ⟨bt_lst fc rfl, ⟨_, rfl⟩, f_strI (by omega) ?_⟩
  try decreasing_with simp only [↓e_comp]
  refine ⟨_, rfl, comp_m e.rooms (fun r => .str (nS r)) rfl rfl (fun r hr Q q => ?_) ?_⟩
  · have := R.rooms r hr
    decreasing_trivial_pre_omega
    refine f_strI (by omega) ?_
    decreasing_trivial_pre_omega
    exact q
  have e2 : e.rooms.map (fun r => PV.str (nS r)) = (e.rooms.map nS).map .str := by rw [List.map_map]; rfl
  rw [e2]
  refine b_addTT (by simp; omega) ?_
  decreasing_trivial_pre_omega
  intro d hd
  have sd := Sub.new (o := .lst (PV.str "dryer" :: .str e.own :: .str (nS e.cost) :: (e.rooms.map nS).map .str)) hd
  have lw : (.str "dryer" :: .str e.own :: .int e.cost :: e.rooms.map .int : List PV).map wdS = ("dryer" : Str) :: e.own :: nS e.cost :: e.rooms.map nS := by
    simp only [List.map_cons, List.map_map]; rfl
  obtain ⟨dl1, dl2⟩ := line_len (vs := .str "dryer" :: .str e.own :: .int e.cost :: e.rooms.map .int) (mem0 _ (by simp [headV])).1
  rw [lw] at dl2
  have dll : (.str "dryer" :: .str e.own :: .int e.cost :: e.rooms.map .int : List PV).length ≤ 30 := by simp; omega
  refine bj_join (ss := ("dryer" : Str) :: e.own :: nS e.cost :: e.rooms.map nS) (by simp only [seqOf, up_same]; rfl) (by omega) (by show (Txt.join " " _).length ≤ _; rw [← lw]; show (lineS _).length ≤ _; omega) ?_
  rw [← lw]
  show mat (.str (lineS (.str "dryer" :: .str e.own :: .int e.cost :: e.rooms.map .int))) _ _
  decreasing_trivial_pre_omega
  have fd := sd _ _ fc
  refine ap_lst fd (by simp) ?_
  generalize hM : up (up (up μ c (.lst [PV.str (lineS (.str "measures" :: e.ms.map .str))])) d (.lst (PV.str "dryer" :: .str e.own :: .str (nS e.cost) :: (e.rooms.map nS).map .str))) c (.lst ([PV.str (lineS (.str "measures" :: e.ms.map .str))] ++ [PV.str (lineS (.str "dryer" :: .str e.own :: .int e.cost :: e.rooms.map .int))])) = μ3
  have f3 : μ3 c = some (.lst [PV.str (lineS (.str "measures" :: e.ms.map .str)), .str (lineS (.str "dryer" :: .str e.own :: .int e.cost :: e.rooms.map .int))]) := by rw [← hM, up_same]; rfl
  have s3 : Sub μ μ3 := by rw [← hM]; exact sub_put (Sub.trans sc sd) hc
  clear hM fd fc sd sc
  refine ⟨bt_lst f3 rfl, f_strI (by omega) ?_⟩
  have nl := nS_len (i := e.st) (by omega)
  refine ⟨by rw [e8]; omega, ?_⟩
  rw [line_st]
  decreasing_trivial_pre_omega
  refine ap_lst f3 (by simp) ?_
  generalize hM : up μ3 c (.lst ([PV.str (lineS (.str "measures" :: e.ms.map .str)), .str (lineS (.str "dryer" :: .str e.own :: .int e.cost :: e.rooms.map .int))] ++ [PV.str (lineS [.str "storing", .int e.st])])) = μ4
  have f4 : μ4 c = some (.lst (((headV e).map lineS).map .str)) := by rw [← hM, up_same]; rfl
  have s4 : Sub μ μ4 := by rw [← hM]; exact sub_put s3 hc
  clear hM f3
  try decreasing_with simp only [↓s_loop']
  refine ⟨_, rfl, walk_m e.lots rfl (I := fun pre ρ μ' => (∃ x2 x3 x4 x5 x6 x7, ρ = [some (specE e), some (.ref c), x2, x3, x4, x5, x6, x7]) ∧ μ' c = some (.lst (((headV e ++ pre.map lotV).map lineS).map .str)) ∧ Sub μ μ') ?_ ?_ ?_ ?_⟩
  · exact ⟨⟨_, _, _, _, _, _, rfl⟩, by simpa using f4, s4⟩
  · intro _ _ _ _; rfl
  · rintro pre l post ρ μ' Q eq ⟨⟨x2, x3, x4, x5, x6, x7, rfl⟩, f2, s2⟩ hQ
    have r := R.lots l (by rw [eq]; simp)
    have hp : pre.length < e.lots.length := by rw [eq]; simp
    have ll := R.ll
    have r1 := r.day
    have r2 := r.w
    decreasing_trivial_pre_omega
    refine f_strI (by omega) ?_
    decreasing_trivial_pre_omega
    refine f_strI (by omega) ?_
    decreasing_trivial_pre_omega
    intro g hg
    try decreasing_with simp only [↓s_loop']
    have zg : μ g = none := by
      cases z : μ g with
      | none => rfl
      | some o => rw [s2 _ _ z] at hg; cases hg
    have ncg : c ≠ g := fun z => by subst z; rw [f2] at hg; cases hg
    have tl3 := r.tl
    refine ⟨_, rfl, walk_m l.tk rfl (I := fun pr ρ μ'' => (∃ x5, ρ = [some (specE e), some (.ref c), some (lotP l), x3, some (.ref g), x5, x6, x7]) ∧ μ'' g = some (.lst (([("lot" : Str), l.name, l.owner, nS l.day, nS l.w] ++ (pr.map fun p => [nS p.1, nS p.2]).flatten).map .str)) ∧ μ'' c = some (.lst (((headV e ++ pre.map lotV).map lineS).map .str)) ∧ Sub μ μ'') ?_ ?_ ?_ ?_⟩
    · exact ⟨⟨_, rfl⟩, by rw [up_same]; rfl, by rw [up_ne ncg]; exact f2, Sub.trans s2 (Sub.new hg)⟩
    · intro _ _ _ _; rfl
    · rintro pr q post' ρ μ5 Q2 eq2 ⟨⟨x5, rfl⟩, f5, f6, s5⟩ hQ2
      have hq := r.tk q (by rw [eq2]; simp)
      have hpr : pr.length < l.tk.length := by rw [eq2]; simp
      decreasing_trivial_pre_omega
      refine ⟨bt_lst f5 rfl, f_strI (by omega) ?_⟩
      decreasing_trivial_pre_omega
      refine f_strI (by omega) ?_
      decreasing_trivial_pre_omega
      intro b hb
      have sb := Sub.new (o := .lst [.str (nS q.1), .str (nS q.2)]) hb
      refine ⟨_, [.str (nS q.1), .str (nS q.2)], sb _ _ f5, by simp only [lstOf, up_same], by rw [List.length_map, List.length_append, flat2_lenS]; simp; omega, ?_⟩
      refine hQ2 _ _ ⟨⟨_, rfl⟩, ?_, by rw [up_ne ncg]; exact sb _ _ f6, sub_put (Sub.trans s5 sb) zg⟩
      rw [up_same]
      simp only [List.map_append, List.map_cons, List.map_nil, List.flatten_append, List.flatten_cons, List.flatten_nil, List.append_nil, List.append_assoc]
    · rintro ρ μ5 ⟨⟨x5, rfl⟩, f5, f6, s5⟩
      obtain ⟨dl1, dl2⟩ := line_len (lotV_ok r (by omega))
      have vl : (lotV l).length ≤ 30 := by unfold lotV; rw [List.length_append, flat2_len]; simp; omega
      rw [← lotV_words] at f5
      decreasing_trivial_pre_omega
      refine ⟨bt_lst f6 rfl, ⟨_, rfl⟩, bj_join (ss := (lotV l).map wdS) (by simp only [seqOf, f5]) (by omega) (by show (lineS (lotV l)).length ≤ _; omega) ?_⟩
      show mat (.str (lineS (lotV l))) _ _
      decreasing_trivial_pre_omega
      refine ap_lst f6 (by simp [headV]; omega) ?_
      refine hQ _ _ ⟨⟨_, _, _, _, _, _, rfl⟩, ?_, sub_put s5 hc⟩
      rw [up_same]
      simp only [List.map_append, List.map_cons, List.map_nil, List.append_assoc]
  rintro ρ μ6 ⟨⟨x2, x3, x4, x5, x6, x7, rfl⟩, f7, s7⟩
  have ll := R.ll
  have ol := R.ol
  try decreasing_with simp only [↓s_loop']
  refine ⟨_, rfl, walk_m e.odrs rfl (I := fun pre ρ μ' => (∃ x2 x3 x4 x5 x6 x7, ρ = [some (specE e), some (.ref c), x2, x3, x4, x5, x6, x7]) ∧ μ' c = some (.lst (((headV e ++ e.lots.map lotV ++ pre.map odrV).map lineS).map .str)) ∧ Sub μ μ') ?_ ?_ ?_ ?_⟩
  · exact ⟨⟨_, _, _, _, _, _, rfl⟩, by simpa using f7, s7⟩
  · intro _ _ _ _; rfl
  · rintro pre o post ρ μ' Q eq ⟨⟨x2, x3, x4, x5, x6, x7, rfl⟩, f2, s2⟩ hQ
    have r := R.odrs o (by rw [eq]; simp)
    have hp : pre.length < e.odrs.length := by rw [eq]; simp
    have r1 := r.day
    have r2 := r.least
    have r3 := r.most
    have r4 := r.price
    have e26 : cutP [PV.str o.name, .str o.owner, .int o.day, .int o.least, .int o.most, .int o.price, .tup (o.lims.map limP)] (some 2) (some 6) = [o.day, o.least, o.most, o.price].map .int := rfl
    decreasing_with simp only [↓e_comp, ↓e_slcB, ↓sl_tup]
    rw [e26]
    refine ⟨_, rfl, comp_m [o.day, o.least, o.most, o.price] (fun i => .str (nS i)) (g := PV.int) rfl rfl (fun i hi Q q => ?_) ?_⟩
    · have hb : -1000000000 < i ∧ i < 1000000000 := by
        simp only [List.mem_cons, List.not_mem_nil, or_false] at hi
        rcases hi with rfl | rfl | rfl | rfl <;> omega
      refine f_strI hb ?_
      decreasing_trivial_pre_omega
      exact q
    refine b_addTT (by simp) ?_
    try decreasing_with simp only [↓e_comp]
    intro g hg
    have zg : μ g = none := by
      cases z : μ g with
      | none => rfl
      | some o => rw [s2 _ _ z] at hg; cases hg
    have ncg : c ≠ g := fun z => by subst z; rw [f2] at hg; cases hg
    have tl3 := r.tl
    refine ⟨_, rfl, walk_m o.lims rfl (I := fun pr ρ μ'' => (∃ x5 x7, ρ = [some (specE e), some (.ref c), x2, some (odrP o), some (.ref g), x5, x6, x7]) ∧ μ'' g = some (.lst (([("order" : Str), o.name, o.owner, nS o.day, nS o.least, nS o.most, nS o.price] ++ (pr.map fun p => [wdS (optP p.1), wdS (optP p.2)]).flatten).map .str)) ∧ μ'' c = some (.lst (((headV e ++ e.lots.map lotV ++ pre.map odrV).map lineS).map .str)) ∧ Sub μ μ'') ?_ ?_ ?_ ?_⟩
    · exact ⟨⟨_, _, rfl⟩, by rw [up_same]; rfl, by rw [up_ne ncg]; exact f2, Sub.trans s2 (Sub.new hg)⟩
    · intro _ _ _ _; rfl
    · rintro pr q post' ρ μ5 Q2 eq2 ⟨⟨x5, x7, rfl⟩, f5, f6, s5⟩ hQ2
      have hq := r.lims q (by rw [eq2]; simp)
      have hpr : pr.length < o.lims.length := by rw [eq2]; simp
      try decreasing_with simp only [↓e_comp]
      refine ⟨bt_lst f5 rfl, _, rfl, comp_m [q.1, q.2] (fun w => .str (wdS (optP w))) (g := optP) rfl rfl (fun w hw Q q' => ?_) ?_⟩
      · have wok : WdOk (optP w) := by
          simp only [List.mem_cons, List.not_mem_nil, or_false] at hw
          rcases hw with rfl | rfl
          · exact wd_optP hq.1
          · exact wd_optP hq.2.1
        cases w with
        | none =>
          decreasing_with simp only [optP]
          exact q'
        | some i =>
          decreasing_with simp only [optP]
          refine f_strI wok ?_
          decreasing_trivial_pre_omega
          exact q'
      intro b hb
      have sb := Sub.new (o := .lst ([q.1, q.2].map fun w => PV.str (wdS (optP w)))) hb
      refine ⟨_, [.str (wdS (optP q.1)), .str (wdS (optP q.2))], sb _ _ f5, by simp only [lstOf, up_same, List.map_cons, List.map_nil], by rw [List.length_map, List.length_append, flat2_lenS]; simp; omega, ?_⟩
      refine hQ2 _ _ ⟨⟨_, _, rfl⟩, ?_, by rw [up_ne ncg]; exact sb _ _ f6, sub_put (Sub.trans s5 sb) zg⟩
      rw [up_same]
      simp only [List.map_append, List.map_cons, List.map_nil, List.flatten_append, List.flatten_cons, List.flatten_nil, List.append_nil, List.append_assoc]
    · rintro ρ μ5 ⟨⟨x5, x7, rfl⟩, f5, f6, s5⟩
      obtain ⟨dl1, dl2⟩ := line_len (odrV_ok r (by omega))
      have vl : (odrV o).length ≤ 30 := by unfold odrV; rw [List.length_append, flat2_len]; simp; omega
      rw [← odrV_words] at f5
      decreasing_trivial_pre_omega
      refine ⟨bt_lst f6 rfl, ⟨_, rfl⟩, bj_join (ss := (odrV o).map wdS) (by simp only [seqOf, f5]) (by omega) (by show (lineS (odrV o)).length ≤ _; omega) ?_⟩
      show mat (.str (lineS (odrV o))) _ _
      decreasing_trivial_pre_omega
      refine ap_lst f6 (by simp [headV]; omega) ?_
      refine hQ _ _ ⟨⟨_, _, _, _, _, _, rfl⟩, ?_, sub_put s5 hc⟩
      rw [up_same]
      simp only [List.map_append, List.map_cons, List.map_nil, List.append_assoc]
  · rintro ρ μ8 ⟨⟨x2, x3, x4, x5, x6, x7, rfl⟩, f8, s8⟩
    try decreasing_with simp only [↓e_comp]
    have ei : itemsOf μ8 .seq [.ref c] = some (((rowsV e).map lineS).map .str) := by
      show itS _ (.ref c) = _
      simp only [itS, seqOf, f8]
      rfl
    obtain ⟨t1, t2, t3⟩ := text_len R
    have e0 : ("" : Str).length = 0 := by decide
    have en : ("\n" : Str).length = 1 := by decide
    refine ⟨⟨_, rfl⟩, _, ei, comp_m ((rowsV e).map lineS) (fun x => .str (x ++ "\n")) (g := PV.str) rfl ei (fun x hx Q q => ?_) ?_⟩
    · obtain ⟨r, hr, rfl⟩ := List.mem_map.mp hx
      obtain ⟨o1, o2⟩ := hok r hr
      have := (line_len o1).1
      refine ⟨by rw [en]; omega, ?_⟩
      decreasing_trivial_pre_omega
      exact q
    have el : ((rowsV e).map lineS).map (fun x => PV.str (x ++ "\n")) = ((rowsV e).map lineN).map .str := by rw [List.map_map, List.map_map]; rfl
    rw [el]
    intro b hb
    refine bj_join (ss := (rowsV e).map lineN) (by simp only [seqOf, up_same]) (by rw [e0]; omega) (by show (textE e).length ≤ _; omega) ?_
    show mat (.str (textE e)) _ _
    decreasing_trivial_pre_omega
    exact rt_sub (Sub.new hb) (p μ8 s8)
end

/-- signs of words: letters, digits, minus -/
def Sgn (c : Nat) : Prop := c = 45 ∨ (48 ≤ c ∧ c ≤ 57) ∨ (97 ≤ c ∧ c ≤ 122)
def WdC (v : PV) : Prop := ∀ c ∈ (wdS v).cps.toList, Sgn c
theorem wdc_int {i : Int} : WdC (.int i) := fun c hc => by
  have hc : c ∈ numZ i := by rw [← tl_nS]; exact hc
  cases i with
  | ofNat n => exact .inr (.inl (num_dig (n := n) hc))
  | negSucc n =>
    rcases List.mem_cons.mp hc with rfl | hc
    · exact .inl rfl
    · exact .inr (.inl (num_dig hc))
theorem wdc_name {x : Str} (h : isName x) : WdC (.str x) := fun c hc => .inr (.inr (h.2.2 c hc))
theorem wdc_opt {o : Option Int} : WdC (optP o) := by
  cases o with
  | none =>
    intro c hc
    have : c ∈ [45] := hc
    exact .inl (by simpa using this)
  | some i => exact wdc_int
theorem wdc_key : ∀ x ∈ (["measures", "dryer", "storing", "lot", "order"] : List Str), WdC (.str x) := by
  have key : ∀ x ∈ (["measures", "dryer", "storing", "lot", "order"] : List Str), isName x := by
    intro x hx
    simp only [List.mem_cons, List.not_mem_nil, or_false] at hx
    rcases hx with rfl | rfl | rfl | rfl | rfl <;> exact ⟨by decide, by decide, by decide⟩
  exact fun x hx => wdc_name (key x hx)
theorem rows_c {e : Elv} (R : Right e) : ∀ r ∈ rowsV e, ∀ v ∈ r, WdC v := fun r hr v hv => by
  unfold rowsV headV at hr
  rcases List.mem_append.mp hr with hr | hr
  · rcases List.mem_append.mp hr with hr | hr
    · simp only [List.mem_cons, List.not_mem_nil, or_false] at hr
      rcases hr with rfl | rfl | rfl
      · rcases List.mem_cons.mp hv with rfl | hv
        · exact wdc_key _ (by simp)
        · obtain ⟨m, hm, rfl⟩ := List.mem_map.mp hv
          exact wdc_name (R.mn m hm)
      · rcases List.mem_append.mp hv with hv | hv
        · simp only [List.mem_cons, List.not_mem_nil, or_false] at hv
          rcases hv with rfl | rfl | rfl
          · exact wdc_key _ (by simp)
          · exact wdc_name R.own
          · exact wdc_int
        · obtain ⟨m, hm, rfl⟩ := List.mem_map.mp hv
          exact wdc_int
      · simp only [List.mem_cons, List.not_mem_nil, or_false] at hv
        rcases hv with rfl | rfl
        · exact wdc_key _ (by simp)
        · exact wdc_int
    · obtain ⟨l, hl, rfl⟩ := List.mem_map.mp hr
      have r := R.lots l hl
      rcases List.mem_append.mp hv with hv | hv
      · simp only [List.mem_cons, List.not_mem_nil, or_false] at hv
        rcases hv with rfl | rfl | rfl | rfl | rfl
        · exact wdc_key _ (by simp)
        · exact wdc_name r.name
        · exact wdc_name r.owner
        · exact wdc_int
        · exact wdc_int
      · rw [List.mem_flatten] at hv
        obtain ⟨q, hq, hv⟩ := hv
        obtain ⟨p, hp, rfl⟩ := List.mem_map.mp hq
        simp only [List.mem_cons, List.not_mem_nil, or_false] at hv
        rcases hv with rfl | rfl <;> exact wdc_int
  · obtain ⟨l, hl, rfl⟩ := List.mem_map.mp hr
    have r := R.odrs l hl
    rcases List.mem_append.mp hv with hv | hv
    · simp only [List.mem_cons, List.not_mem_nil, or_false] at hv
      rcases hv with rfl | rfl | rfl | rfl | rfl | rfl | rfl
      · exact wdc_key _ (by simp)
      · exact wdc_name r.name
      · exact wdc_name r.owner
      · exact wdc_int
      · exact wdc_int
      · exact wdc_int
      · exact wdc_int
    · rw [List.mem_flatten] at hv
      obtain ⟨q, hq, hv⟩ := hv
      obtain ⟨p, hp, rfl⟩ := List.mem_map.mp hq
      simp only [List.mem_cons, List.not_mem_nil, or_false] at hv
      rcases hv with rfl | rfl <;> exact wdc_opt
theorem joinL_mem {S : List Nat} {c : Nat} : ∀ {ps : List (List Nat)}, c ∈ TL.joinL S ps → c ∈ S ∨ ∃ p ∈ ps, c ∈ p
  | [], h => by simp [TL.joinL] at h
  | [p], h => .inr ⟨p, List.mem_cons_self, h⟩
  | p :: q :: r, h => by
    rcases List.mem_append.mp (show c ∈ p ++ (S ++ TL.joinL S (q :: r)) from h) with h | h
    · exact .inr ⟨p, List.mem_cons_self, h⟩
    · rcases List.mem_append.mp h with h | h
      · exact .inl h
      · rcases joinL_mem h with h | ⟨x, hx, h⟩
        · exact .inl h
        · exact .inr ⟨x, List.mem_cons_of_mem _ hx, h⟩
theorem line_c {vs : List PV} (h : ∀ v ∈ vs, WdC v) : ∀ c ∈ (lineS vs).cps.toList, c = 32 ∨ Sgn c := fun c hc => by
  unfold lineS at hc
  rw [TL.join_eq] at hc
  have e := TL.tl_join " " (vs.map wdS)
  have hc : c ∈ TL.tl (Str.join " " (vs.map wdS)) := hc
  rw [e] at hc
  rcases joinL_mem hc with h1 | ⟨p, hp, h1⟩
  · have : c ∈ [32] := h1
    exact .inl (by simpa using this)
  · obtain ⟨x, hx, rfl⟩ := List.mem_map.mp hp
    obtain ⟨v, hv, rfl⟩ := List.mem_map.mp hx
    exact .inr (h v hv c h1)
/-- a line taken apart -/
theorem line_split {vs : List PV} (hne : vs ≠ []) (h : ∀ v ∈ vs, WdC v) : Txt.split (lineS vs) " " = vs.map wdS :=
  TL.split_join (s := 32) (S := []) rfl (by decide +kernel) (by simpa using hne) fun p hp => by
    obtain ⟨v, hv, rfl⟩ := List.mem_map.mp hp
    intro hm
    rcases h v hv 32 hm with h | h | h <;> omega
theorem lines_join : ∀ ss : List Str, Txt.join "" (ss.map fun x : Str => x ++ ("\n" : Str)) = Txt.join "\n" (ss ++ [("" : Str)]) := fun ss => by
  refine TL.ext_tl ?_
  rw [TL.join_eq, TL.join_eq, TL.tl_join, TL.tl_join]
  induction ss with
  | nil => rfl
  | cons x r ih =>
    cases r with
    | nil =>
      show TL.tl (x ++ "\n") = TL.tl x ++ (TL.tl "\n" ++ TL.tl "")
      rw [TL.tl_append]
      simp [TL.tl]
      rfl
    | cons y r =>
      show TL.tl (x ++ "\n") ++ (TL.tl "" ++ TL.joinL (TL.tl "") (((y :: r).map fun x : Str => x ++ ("\n" : Str)).map TL.tl)) = TL.tl x ++ (TL.tl "\n" ++ TL.joinL (TL.tl "\n") (((y :: r) ++ [("" : Str)]).map TL.tl))
      rw [ih, TL.tl_append]
      simp [TL.tl]
      rfl
/-- the text taken apart -/
theorem text_split {e : Elv} (R : Right e) : Txt.split (textE e) "\n" = (rowsV e).map lineS ++ [("" : Str)] := by
  have e1 : textE e = Txt.join "\n" ((rowsV e).map lineS ++ [("" : Str)]) := by
    rw [← lines_join, List.map_map]
    rfl
  rw [e1]
  refine TL.split_join (s := 10) (S := []) rfl (by decide +kernel) (by simp) fun p hp => ?_
  rcases List.mem_append.mp hp with hp | hp
  · obtain ⟨r, hr, rfl⟩ := List.mem_map.mp hp
    intro hm
    rcases line_c (rows_c R r hr) 10 hm with h | h | h | h <;> omega
  · rw [List.mem_singleton] at hp
    subst hp
    exact fun z => nomatch z

section
variable {FT : Nat → Option FI} [B : Base FT] {k n : Nat} {μ : PM} {P : Post} {X : XPost} {a b : Addr} {e : Elv}
def Nine (i : Int) : Prop := -1000000000 < i ∧ i < 1000000000
theorem se_integers_of {is : List Int} (hb : μ b = some (.lst ((is.map nS).map .str))) (h : ∀ i ∈ is, Nine i) (p : ∀ g μ', Sub μ μ' → μ g = none → μ' g = some (.lst (is.map .int)) → P (.ref g) μ') : (CS2 FT (k + 3)).fn F.integers_of [.ref b] μ P X := by
  refine fn_run B.integers_of rfl ?_
  unfold fi_integers_of
  have ei : itemsOf μ .seq [.ref b] = some (is.map fun i => PV.str (nS i)) := by
    show itS _ (.ref b) = _
    simp only [itS, seqOf, hb, List.map_map]
    rfl
  decreasing_with simp only [↓e_comp]
  refine ⟨_, ei, comp_m is (fun i => .int i) (g := fun i => .str (nS i)) rfl ei (fun i hi Q q => ?_) ?_⟩
  · decreasing_trivial_pre_omega
    refine se_integer_of (h i hi) ?_
    decreasing_trivial_pre_omega
    exact q
  decreasing_trivial_pre_omega
  intro g hg
  have f : up μ g (.lst (is.map fun i => PV.int i)) g = some (.lst (is.map .int)) := up_same
  decreasing_trivial_pre_omega
  have fl : ∀ js : List Int, (js.map PV.int).all flatP = true := fun js => by
    induction js with
    | nil => rfl
    | cons x r ih => rw [List.map_cons, List.all_cons, ih]; rfl
  have an : ∀ js : List Int, ((js.map PV.int).any fun z => eqP z .non) = false := fun js => by
    induction js with
    | nil => rfl
    | cons x r ih => rw [List.map_cons, List.any_cons, ih]; rfl
  refine ⟨is.map .int, by simp only [seqOf, f], rfl, fl is, ?_⟩
  refine ⟨_, rfl, ?_⟩
  rw [an is, if_neg Bool.false_ne_true]
  exact rt_here (p g _ (Sub.new hg) hg f)
/-- things that follow one another, by two -/
def two (l : List (PV × PV)) : List PV := (l.map fun p => [p.1, p.2]).flatten
theorem two_len {l : List (PV × PV)} : (two l).length = 2 * l.length := flat2_len
theorem two_get : ∀ {l : List (PV × PV)} {i : Nat} {p : PV × PV}, l[i]? = some p → (two l)[2 * i]? = some p.1 ∧ (two l)[2 * i + 1]? = some p.2
  | [], i, p, h => by cases h
  | q :: l, 0, p, h => by cases h; exact ⟨rfl, rfl⟩
  | q :: l, i + 1, p, h => by
    obtain ⟨h1, h2⟩ := two_get (l := l) (i := i) (by simpa using h)
    refine ⟨?_, ?_⟩
    · rw [show 2 * (i + 1) = 2 * i + 1 + 1 by omega]
      exact h1
    · rw [show 2 * (i + 1) + 1 = 2 * i + 1 + 1 + 1 by omega]
      exact h2
theorem se_pairs_of {l : List (PV × PV)} (hb : μ b = some (.lst (two l))) (hl : l.length ≤ 100) (hn : ∀ p ∈ l, NT p.1 ∧ NT p.2) (p : P (.tup (l.map fun p => .tup [p.1, p.2])) μ) : (CS2 FT (k + 2)).fn F.pairs_of [.ref b] μ P X := by
  refine fn_run B.pairs_of rfl ?_
  unfold fi_pairs_of
  have h2 : (two l).length = 2 * l.length := two_len
  decreasing_with simp only [↓e_comp, ↓f_lenL hb]
  refine ⟨PyProof.noPylong_of_log2 (by decide), ?_⟩
  have e2 : ((two l).length : Int) / 2 = (l.length : Int) := by rw [h2]; omega
  rw [e2]
  refine ⟨_, it_rng (n := l.length) (by omega), comp_rng (fun i => match l[i]? with
    | some q => .tup [q.1, q.2]
    | none => .non) (it_rng (by omega)) (fun i hi Q q => ?_) ?_⟩
  · obtain ⟨r, hr⟩ : ∃ r, l[i]? = some r := ⟨l[i], List.getElem?_eq_getElem hi⟩
    rw [hr] at q
    obtain ⟨g1, g2⟩ := two_get hr
    obtain ⟨n1, n2⟩ := hn r (List.mem_of_getElem? hr)
    decreasing_trivial_pre_omega
    have ea : ∀ (i j : Int) (m : Nat) (v : PV) (P : Post), i = ((m : Nat) : Int) → (two l)[m]? = some v → P v μ → idxW (.ref b) (.int i) μ P := fun i j m v P e h p => by
      subst e
      exact ⟨two l, v, by simp only [seqOf, hb], by rw [atI_n]; exact h, p⟩
    refine ⟨sm_mul (sm_of (by omega) (by omega)) (sm_of (by omega) (by omega)), ea _ 0 (2 * i) _ _ (by omega) g1 ?_⟩
    simp only [m_nt n1]
    refine ⟨sm_mul (sm_of (by omega) (by omega)) (sm_of (by omega) (by omega)), ea _ 0 (2 * i + 1) _ _ (by omega) g2 ?_⟩
    simp only [m_nt n2]
    exact q
  · refine ⟨_, Sub.refl, ?_⟩
    have e3 : (List.range l.length).map (fun i => match l[i]? with
        | some q => PV.tup [q.1, q.2]
        | none => .non) = l.map fun p => PV.tup [p.1, p.2] := by
      refine List.ext_getElem (by simp) fun i h1 h2 => ?_
      simp at h1
      simp [h1]
    rw [e3]
    exact p
end

def tkI (l : Lot) : List Int := (l.tk.map fun p => [p.1, p.2]).flatten
def lmO (o : Odr) : List (Option Int) := (o.lims.map fun p => [p.1, p.2]).flatten
theorem flat_map2 {α β : Type} {f : α → β} {l : List (α × α)} : (l.map fun p => [f p.1, f p.2]).flatten = ((l.map fun p => [p.1, p.2]).flatten).map f := by
  rw [List.map_flatten, List.map_map]
  rfl
def pvS (l : List Str) : List PV := l.map .str
theorem lot_ws {l : Lot} : ((lotV l).map wdS).map .str = .str "lot" :: .str l.name :: .str l.owner :: (pvS ((l.day :: l.w :: tkI l).map nS)) := by
  rw [lotV_words, flat_map2 (f := nS)]
  rfl
theorem odr_ws {o : Odr} : ((odrV o).map wdS).map .str = .str "order" :: .str o.name :: .str o.owner :: .str (nS o.day) :: .str (nS o.least) :: .str (nS o.most) :: .str (nS o.price) :: pvS ((lmO o).map fun x => wdS (optP x)) := by
  rw [odrV_words]
  have := flat_map2 (f := fun x => wdS (optP x)) (l := o.lims)
  rw [this]
  rfl
theorem tkI_len {l : Lot} : (tkI l).length = 2 * l.tk.length := by
  unfold tkI
  induction l.tk with
  | nil => rfl
  | cons x r ih => rw [List.map_cons, List.flatten_cons, List.length_append, ih, List.length_cons]; simp; omega
theorem lmO_len {o : Odr} : (lmO o).length = 2 * o.lims.length := by
  unfold lmO
  induction o.lims with
  | nil => rfl
  | cons x r ih => rw [List.map_cons, List.flatten_cons, List.length_append, ih, List.length_cons]; simp; omega
theorem lmO_in {m d : Nat} {o : Odr} (r : RtOdr m d o) : ∀ x ∈ lmO o, ∀ i, x = some i → 0 ≤ i ∧ i ≤ 1000 := fun x hx => by
  unfold lmO at hx
  rw [List.mem_flatten] at hx
  obtain ⟨q, hq, hv⟩ := hx
  obtain ⟨p, hp, rfl⟩ := List.mem_map.mp hq
  have := r.lims p hp
  simp only [List.mem_cons, List.not_mem_nil, or_false] at hv
  rcases hv with rfl | rfl
  · exact this.1
  · exact this.2.1
theorem nS_ne {i : Int} : nS i ≠ "-" := str_ne (by
  rw [tl_nS]
  show numZ i ≠ [45]
  cases i with
  | ofNat n =>
    intro e
    have := num_dig (n := n) (c := 45) (by rw [show TL.numL n = [45] from e]; exact List.mem_cons_self)
    omega
  | negSucc n =>
    intro e
    injection e with _ e
    exact TL.numL_ne _ e)
section
variable {FT : Nat → Option FI} [B : Base FT] {k n : Nat} {μ : PM} {P : Post} {X : XPost} {a b : Addr} {e : Elv}
theorem sl_L {p : Addr} {xs : List PV} {lo hi : Option Int} (h : μ p = some (.lst xs)) : slcW (.ref p) lo hi μ P = P (.tmp (cutP xs lo hi)) μ := by
  have e : slcW (.ref p) lo hi μ P = ∃ ys, seqOf μ (.ref p) = some ys ∧ P (.tmp (cutP ys lo hi)) μ := rfl
  rw [e]
  have : seqOf μ (.ref p) = some xs := by simp only [seqOf, h]
  rw [this]
  simp
theorem e_slcT {C : Calls} {ρ : PE_} {o lo hi : E} : wpE C (.slc o (some lo) (some hi)) ρ μ P X = wpE C o ρ μ (fun x μ1 => wpE C lo ρ μ1 (fun v μ3 => ∃ i, v = .int i ∧ wpE C hi ρ μ3 (fun v μ4 => ∃ j, v = .int j ∧ slcW x (some i) (some j) μ4 P) X) X) X := by simp only [wpE, wpO]
theorem se_read_lot {m d : Nat} {l : Lot} (r : RtLot m d l) (hm : m ≤ 3) (hd : d ≤ 20) (hb : μ b = some (.lst (((lotV l).map wdS).map .str))) (p : ∀ μ', Sub μ μ' → P (lotP l) μ') : (CS2 FT (k + 4)).fn F.read_lot [.int m, .ref b] μ P X := by
  refine fn_run B.read_lot rfl ?_
  unfold fi_read_lot
  have h1 := r.day
  have h2 := r.w
  rw [lot_ws] at hb
  have hl : (PV.str "lot" :: .str l.name :: .str l.owner :: (pvS ((l.day :: l.w :: tkI l).map nS))).length = 5 + 2 * m := by
    unfold pvS
    simp only [List.length_cons, List.length_map]
    rw [tkI_len, r.tl]
    omega
  decreasing_with simp only [↓f_lenL hb, ↓i_lst hb, ↓e_slcS, ↓sl_L hb, hl, ↓c_nes]
  have hl' : (pvS (nS l.day :: nS l.w :: List.map nS (tkI l))).length + 1 + 1 + 1 = 5 + 2 * m := hl
  have nine : ∀ i ∈ l.day :: l.w :: tkI l, Nine i := fun i hi => by
    rcases List.mem_cons.mp hi with rfl | hi
    · exact ⟨by omega, by omega⟩
    rcases List.mem_cons.mp hi with rfl | hi
    · exact ⟨by omega, by omega⟩
    unfold tkI at hi
    rw [List.mem_flatten] at hi
    obtain ⟨q, hq, hv⟩ := hi
    obtain ⟨p, hp, rfl⟩ := List.mem_map.mp hq
    have := r.tk p hp
    simp only [List.mem_cons, List.not_mem_nil, or_false] at hv
    rcases hv with rfl | rfl
    · exact ⟨by omega, by omega⟩
    · exact ⟨by omega, by omega⟩
  refine ⟨sm_mul (sm_of (by omega) (by omega)) (sm_of (by omega) (by omega)), ?_⟩
  rw [decide_eq_true (by rw [hl']; omega), if_neg (by decide)]
  refine sp_is_name ?_ r.name
  decreasing_with simp only [↓i_lst hb]
  refine sp_is_name ?_ r.owner
  decreasing_with simp only [↓sl_L hb, show (some (3 : Int)) = some ((3 : Nat) : Int) from rfl, cut_drop, List.drop_succ_cons, List.drop_zero]
  intro g hg
  have sg : Sub μ (up μ g (.lst (pvS (nS l.day :: nS l.w :: List.map nS (tkI l))))) := Sub.new hg
  have fg : up μ g (.lst (pvS (nS l.day :: nS l.w :: List.map nS (tkI l)))) g = some (.lst (pvS (nS l.day :: nS l.w :: List.map nS (tkI l)))) := up_same
  refine se_integers_of (is := l.day :: l.w :: tkI l) fg nine ?_
  intro g' μ' s' n' f'
  have hb' := s' _ _ (sg _ _ hb)
  rw [List.map_cons, List.map_cons] at f'
  decreasing_with simp only [↓i_lst hb', ↓i_lst f', ↓sl_L f', show (some (2 : Int)) = some ((2 : Nat) : Int) from rfl, cut_drop, List.drop_succ_cons, List.drop_zero]
  intro g2 hg2
  have e2 : (tkI l).map PV.int = two (l.tk.map fun p => (PV.int p.1, PV.int p.2)) := by
    unfold two tkI
    rw [List.map_flatten, List.map_map, List.map_map]
    rfl
  rw [e2]
  refine se_pairs_of (l := l.tk.map fun p => (PV.int p.1, PV.int p.2)) up_same (by rw [List.length_map, r.tl]; omega) (fun p hp => ?_) ?_
  · obtain ⟨q, _, rfl⟩ := List.mem_map.mp hp
    exact ⟨(fun _ z => nomatch z), fun _ z => nomatch z⟩
  decreasing_trivial_pre_omega
  rw [List.map_map]
  exact rt_sub (Sub.new hg2) (p μ' (Sub.trans sg s'))
/-- a line of another length is no lot -/
theorem se_no_lot {m : Nat} {ws : List PV} (hm : m ≤ 3) (hb : μ b = some (.lst ws)) (hl : ws.length ≠ 5 + 2 * m) (p : P .non μ) : (CS2 FT (k + 4)).fn F.read_lot [.int m, .ref b] μ P X := by
  refine fn_run B.read_lot rfl ?_
  unfold fi_read_lot
  decreasing_with simp only [↓f_lenL hb, ↓c_nes]
  refine ⟨sm_mul (sm_of (by omega) (by omega)) (sm_of (by omega) (by omega)), ?_⟩
  rw [decide_eq_false (by omega), if_pos (by decide)]
  exact rt_here p
theorem se_no_order {m : Nat} {ws : List PV} (hm : m ≤ 3) (hb : μ b = some (.lst ws)) (hl : ws.length ≠ 7 + 2 * m) (p : P .non μ) : (CS2 FT (k + 4)).fn F.read_order [.int m, .ref b] μ P X := by
  refine fn_run B.read_order rfl ?_
  unfold fi_read_order
  decreasing_with simp only [↓f_lenL hb, ↓c_nes]
  refine ⟨sm_mul (sm_of (by omega) (by omega)) (sm_of (by omega) (by omega)), ?_⟩
  rw [decide_eq_false (by omega), if_pos (by decide)]
  exact rt_here p
theorem some_ws (l : List (Option Int)) : (l.filter fun x => x.isSome).map (fun x => PV.str (wdS (optP x))) = ((l.filterMap id).map nS).map .str := by
  induction l with
  | nil => rfl
  | cons x r ih =>
    cases x with
    | none => exact ih
    | some i =>
      show PV.str (nS i) :: _ = PV.str (nS i) :: _
      exact congrArg _ ih
theorem nt_opt {o : Option Int} : NT (optP o) := by cases o <;> exact fun _ z => nomatch z
theorem cut37 {a b c d e f g : PV} {r : List PV} : cutP (a :: b :: c :: d :: e :: f :: g :: r) (some 3) (some 7) = [d, e, f, g] := by
  unfold cutP
  rw [show (some (3 : Int)) = some ((3 : Nat) : Int) from rfl, show (some (7 : Int)) = some ((7 : Nat) : Int) from rfl, HT.sIx_nat, HT.sIx_nat, Nat.min_eq_left (by simp only [List.length_cons]; omega), Nat.min_eq_left (by simp only [List.length_cons]; omega)]
  rfl
theorem se_read_order {m d : Nat} {l : Odr} (r : RtOdr m d l) (hm : m ≤ 3) (hd : d ≤ 20) (hb : μ b = some (.lst (((odrV l).map wdS).map .str))) (p : ∀ μ', Sub μ μ' → P (odrP l) μ') : (CS2 FT (k + 4)).fn F.read_order [.int m, .ref b] μ P X := by
  refine fn_run B.read_order rfl ?_
  unfold fi_read_order
  have h1 := r.day
  have h2 := r.least
  have h3 := r.most
  have h4 := r.price
  rw [odr_ws] at hb
  have hl : (PV.str "order" :: .str l.name :: .str l.owner :: .str (nS l.day) :: .str (nS l.least) :: .str (nS l.most) :: .str (nS l.price) :: pvS ((lmO l).map fun x => wdS (optP x))).length = 7 + 2 * m := by
    unfold pvS
    simp only [List.length_cons, List.length_map, List.length_append, List.length_nil]
    rw [lmO_len, r.tl]
    omega
  decreasing_with simp only [↓f_lenL hb, ↓i_lst hb, ↓e_slcS, ↓e_slcT, ↓e_slcN, ↓sl_L hb, hl, ↓c_nes, ↓c_eqs, ↓e_comp]
  have hl' : (pvS ((lmO l).map fun x => wdS (optP x))).length + 1 + 1 + 1 + 1 + 1 + 1 + 1 = 7 + 2 * m := hl
  refine ⟨sm_mul (sm_of (by omega) (by omega)) (sm_of (by omega) (by omega)), ?_⟩
  rw [decide_eq_true (by omega), if_neg (by decide)]
  refine sp_is_name ?_ r.name
  decreasing_with simp only [↓i_lst hb]
  refine sp_is_name ?_ r.owner
  decreasing_with simp only [↓sl_L hb, ↓cut37]
  have c7 : ∀ {a b c d e f g : PV} {r : List PV}, cutP (a :: b :: c :: d :: e :: f :: g :: r) (some 7) none = r := fun {a b c d e f g r} => by
    rw [show (some (7 : Int)) = some ((7 : Nat) : Int) from rfl, cut_drop]
    rfl
  decreasing_with simp only [c7]
  have ei : ∀ μ' : PM, itemsOf μ' .seq [PV.tmp (pvS ((lmO l).map fun x => wdS (optP x)))] = some ((lmO l).map fun x => .str (wdS (optP x))) := fun μ' => by
    show some (pvS _) = _
    unfold pvS
    rw [List.map_map]
    rfl
  refine ⟨_, ei _, comp_p (lmO l) (fun x => x.isSome) (fun x => .str (wdS (optP x))) (g := fun x => .str (wdS (optP x))) rfl (ei _) (fun x hx Q q => ?_) ?_⟩
  · rw [c_nes]
    cases x with
    | none =>
      refine ⟨_, rfl, ?_⟩
      rw [if_neg (by decide)]
      exact q
    | some i =>
      refine ⟨_, rfl, ?_⟩
      rw [if_pos (by rw [decide_eq_false (show ¬ wdS (optP (some i)) = "-" from nS_ne)]; rfl)]
      show mat (.str _) _ _
      decreasing_trivial_pre_omega
      exact q
  have ml : (lmO l).length ≤ 6 := by rw [lmO_len, r.tl]; omega
  have fl : ((lmO l).filterMap id).length ≤ 6 := Nat.le_trans (List.length_filterMap_le _ _) ml
  rw [some_ws]
  refine b_addTT (by simp only [List.length_map, List.length_cons, List.length_nil]; omega) ?_
  decreasing_trivial_pre_omega
  intro g hg
  have nine : ∀ i ∈ l.day :: l.least :: l.most :: l.price :: (lmO l).filterMap id, Nine i := fun i hi => by
    rcases List.mem_cons.mp hi with rfl | hi
    · exact ⟨by omega, by omega⟩
    rcases List.mem_cons.mp hi with rfl | hi
    · exact ⟨by omega, by omega⟩
    rcases List.mem_cons.mp hi with rfl | hi
    · exact ⟨by omega, by omega⟩
    rcases List.mem_cons.mp hi with rfl | hi
    · exact ⟨by omega, by omega⟩
    obtain ⟨x, hx, e⟩ := List.mem_filterMap.mp hi
    have := lmO_in r x hx i e
    exact ⟨by omega, by omega⟩
  generalize hM : up μ g _ = μ1
  have sg : Sub μ μ1 := by rw [← hM]; exact Sub.new hg
  have fg : μ1 g = some (.lst (((l.day :: l.least :: l.most :: l.price :: (lmO l).filterMap id).map nS).map .str)) := by rw [← hM, up_same]; rfl
  refine se_integers_of (is := l.day :: l.least :: l.most :: l.price :: (lmO l).filterMap id) fg nine ?_
  intro g' μ' s' n' f'
  have hb' := s' _ _ (sg _ _ hb)
  rw [List.map_cons, List.map_cons, List.map_cons, List.map_cons] at f'
  decreasing_with simp only [↓sl_L hb', ↓e_comp]
  decreasing_with simp only [c7]
  refine ⟨_, ei _, comp_m (lmO l) optP (g := fun x => .str (wdS (optP x))) rfl (ei _) (fun x hx Q q => ?_) ?_⟩
  · rw [c_eqs]
    cases x with
    | none =>
      refine ⟨_, rfl, ?_⟩
      rw [if_pos (by decide)]
      exact q
    | some i =>
      refine ⟨_, rfl, ?_⟩
      rw [decide_eq_false (show ¬ wdS (optP (some i)) = "-" from nS_ne), if_neg Bool.false_ne_true]
      show mat (.str _) _ _
      decreasing_trivial_pre_omega
      have := lmO_in r _ hx i rfl
      refine se_integer_of ⟨by omega, by omega⟩ ?_
      decreasing_trivial_pre_omega
      exact q
  intro g2 hg2
  have sg2 := Sub.new (o := .lst ((lmO l).map optP)) hg2
  have hb2 := sg2 _ _ hb'
  have f2 := sg2 _ _ f'
  have e2 : (lmO l).map optP = two (l.lims.map fun p => (optP p.1, optP p.2)) := by
    unfold two lmO
    rw [List.map_flatten, List.map_map, List.map_map]
    rfl
  have ft : up μ' g2 (.lst ((lmO l).map optP)) g2 = some (.lst (two (l.lims.map fun p => (optP p.1, optP p.2)))) := by rw [up_same, e2]
  have c4 : ∀ {a b c d : PV} {r : List PV}, cutP (a :: b :: c :: d :: r) none (some 4) = [a, b, c, d] := fun {a b c d r} => by
    rw [show (some (4 : Int)) = some ((4 : Nat) : Int) from rfl, cut_take]
    rfl
  decreasing_with simp only [↓i_lst hb2, ↓i_lst f2, ↓sl_L f2]
  decreasing_with simp only [c4]
  refine b_addT.mpr ⟨Nat.le_trans (m := 30) (by simp only [List.length_cons, List.length_nil]; omega) (by decide), ?_⟩
  refine se_pairs_of (l := l.lims.map fun p => (optP p.1, optP p.2)) ft (by rw [List.length_map, r.tl]; omega) (fun p hp => ?_) ?_
  · obtain ⟨q, _, rfl⟩ := List.mem_map.mp hp
    exact ⟨nt_opt, nt_opt⟩
  decreasing_trivial_pre_omega
  refine b_addT.mpr ⟨Nat.le_trans (m := 30) (by simp only [List.length_cons, List.length_nil]; omega) (by decide), ?_⟩
  decreasing_trivial_pre_omega
  rw [List.map_map]
  exact rt_sub sg2 (p μ' (Sub.trans sg s'))
end

section
variable {FT : Nat → Option FI} [B : Base FT] {k n : Nat} {μ : PM} {P : Post} {X : XPost} {a b : Addr} {e : Elv}
abbrev msV (e : Elv) : List PV := .str "measures" :: e.ms.map .str
abbrev drV (e : Elv) : List PV := [.str "dryer", .str e.own, .int e.cost] ++ e.rooms.map .int
abbrev stV (e : Elv) : List PV := [.str "storing", .int e.st]
theorem ms_ws : pvS ((msV e).map wdS) = .str "measures" :: e.ms.map .str := by
  show _ :: pvS _ = _
  unfold pvS
  rw [map_wd_str]
  rfl
theorem dr_ws : pvS ((drV e).map wdS) = .str "dryer" :: .str e.own :: ((e.cost :: e.rooms).map nS).map .str := by
  show _ :: _ :: _ :: pvS ((e.rooms.map PV.int).map wdS) = _
  unfold pvS
  rw [List.map_map (g := wdS)]
  rfl
def linesP (e : Elv) : List PV := pvS ((rowsV e).map lineS)
theorem linesP_eq : linesP e = .str (lineS (msV e)) :: .str (lineS (drV e)) :: .str (lineS (stV e)) :: pvS ((e.lots.map lotV ++ e.odrs.map odrV).map lineS) := by
  unfold linesP rowsV headV pvS
  rw [List.append_assoc]
  rfl
theorem bm_line {r : List PV} (R : Right e) (hr : r ∈ rowsV e) (hne : r ≠ []) (p : P (.tmp (pvS (r.map wdS))) μ) : bmW .split (.str (lineS r)) [.str " "] μ P := by
  obtain ⟨o1, o2⟩ := rows_ok R r hr
  have hs := line_split hne (rows_c R r hr)
  have ll := (line_len o1).1
  have hz : 1000 ≤ sizeLine := by decide
  refine ⟨by decide, by omega, by rw [hs, List.length_map]; omega, fun y hy => ?_, ?_⟩
  · rw [hs] at hy
    obtain ⟨v, hv, rfl⟩ := List.mem_map.mp hy
    have := wd_len (o1 v hv)
    omega
  · rw [hs]
    exact p
theorem se_read_head (R : Right e) (hb : μ b = some (.lst (linesP e))) (p : ∀ μ', Sub μ μ' → P (.tup [.tup (e.ms.map .str), dryP e, .int e.st]) μ') : (CS2 FT (k + 5)).fn F.read_head [.ref b] μ P X := by
  have ms := R.ms
  have rl := R.rl
  refine fn_run B.read_head rfl ?_
  unfold fi_read_head
  have hl : 3 ≤ (linesP e).length := by rw [linesP_eq]; simp
  have hl2 : (linesP e).length ≤ 23 := by
    have := (text_len R).2.1
    rw [List.length_map] at this
    unfold linesP pvS
    simpa using this
  have c3 : ∀ {a b c : PV} {r : List PV}, cutP (a :: b :: c :: r) none (some 3) = [a, b, c] := fun {a b c r} => by
    rw [show (some (3 : Int)) = some ((3 : Nat) : Int) from rfl, cut_take]
    rfl
  have hb0 := hb
  rw [linesP_eq] at hb
  decreasing_with simp only [↓e_slcN, ↓sl_L hb, ↓e_comp, c3]
  have m1 : (msV e) ∈ rowsV e := by simp [rowsV, headV]
  have m2 : (drV e) ∈ rowsV e := by simp [rowsV, headV]
  have m3 : (stV e) ∈ rowsV e := by simp [rowsV, headV]
  refine ⟨_, rfl, rfl, ⟨_, rfl⟩, bm_line R m1 (List.cons_ne_nil _ _) fun g1 n1 => ⟨rfl, ⟨_, rfl⟩, bm_line R m2 (List.cons_ne_nil _ _) fun g2 n2 => ⟨rfl, ⟨_, rfl⟩, bm_line R m3 (List.cons_ne_nil _ _) fun g3 n3 => ⟨rfl, fun g4 n4 => ?_⟩⟩⟩⟩
  generalize hM : up _ g4 _ = μ1
  have s1 := Sub.new (o := .lst (pvS ((msV e).map wdS))) n1
  have s2 := Sub.new (o := .lst (pvS ((drV e).map wdS))) n2
  have s3 := Sub.new (o := .lst (pvS ((stV e).map wdS))) n3
  have s4 := Sub.new (o := .lst []) n4
  have s0 : Sub μ μ1 := by rw [← hM]; exact Sub.trans s1 (Sub.trans s2 (Sub.trans s3 s4))
  have h1 : μ1 g1 = some (.lst (pvS ((msV e).map wdS))) := by rw [← hM]; exact s4 _ _ (s3 _ _ (s2 _ _ up_same))
  have h2 : μ1 g2 = some (.lst (pvS ((drV e).map wdS))) := by rw [← hM]; exact s4 _ _ (s3 _ _ up_same)
  have h3 : μ1 g3 = some (.lst (pvS ((stV e).map wdS))) := by rw [← hM]; exact s4 _ _ up_same
  clear hM s1 s2 s3 s4 n1 n2 n3 n4
  have hb1 := s0 _ _ hb0
  decreasing_with simp only [↓f_lenL hb1]
  rw [if_neg (by omega)]
  decreasing_trivial_pre_omega
  refine ⟨_, rfl, by decide, by decide, by show 1 * 0 ≤ sizeLine; decide, ?_⟩
  rw [← linesP_eq] at hb
  clear hb
  have sz : 1000 ≤ sizeLine := by decide
  refine b_addTT (by show 3 + 0 ≤ 1000; decide) ?_
  show mat (.tmp [PV.ref g1, PV.ref g2, PV.ref g3]) _ _
  decreasing_trivial_pre_omega
  intro w hw
  have sw := Sub.new (o := .lst [PV.ref g1, PV.ref g2, PV.ref g3]) hw
  have fw : up μ1 w (.lst [PV.ref g1, PV.ref g2, PV.ref g3]) w = _ := up_same
  rw [ms_ws] at h1
  rw [dr_ws] at h2
  have h3 : μ1 g3 = some (.lst [.str "storing", .str (nS e.st)]) := h3
  generalize up μ1 w (.lst [PV.ref g1, PV.ref g2, PV.ref g3]) = μ2 at *
  have h1 := sw _ _ h1
  have h2 := sw _ _ h2
  have h3 := sw _ _ h3
  decreasing_with simp only [↓i_lst fw, ↓i_lst h1, ↓f_lenL h1, ↓c_nes]
  have c1 : ∀ {a : PV} {r : List PV}, cutP (a :: r) (some 1) none = r := fun {a r} => by
    rw [show (some (1 : Int)) = some ((1 : Nat) : Int) from rfl, cut_drop]
    rfl
  have c2 : ∀ {a a' : PV} {r : List PV}, cutP (a :: a' :: r) (some 2) none = r := fun {a a' r} => by
    rw [show (some (2 : Int)) = some ((2 : Nat) : Int) from rfl, cut_drop]
    rfl
  rw [decide_eq_false (by rw [List.length_map]; omega), if_neg Bool.false_ne_true]
  decreasing_with simp only [↓e_slcS, ↓i_lst fw, ↓sl_L h1, c1]
  refine ⟨_, rfl, comp_all e.ms (g := .str) rfl rfl (fun m hm Q q => ?_) ⟨true, rfl, ?_⟩⟩
  · decreasing_trivial_pre_omega
    refine sp_is_name ?_ (R.mn m hm)
    decreasing_trivial_pre_omega
    exact q
  decreasing_with simp only [↓i_lst fw, ↓i_lst h2, ↓f_lenL h2, ↓c_nes]
  rw [decide_eq_false (by simp only [List.length_map, List.length_cons]; omega), if_neg Bool.false_ne_true]
  refine sp_is_name ?_ R.own
  decreasing_with simp only [↓e_slcS, ↓i_lst fw, ↓sl_L h2, c2]
  intro g5 n5
  have nine : ∀ i ∈ e.cost :: e.rooms, Nine i := fun i hi => by
    have h1 := R.cost
    rcases List.mem_cons.mp hi with rfl | hi
    · exact ⟨by omega, by omega⟩
    · have := R.rooms i hi
      exact ⟨by omega, by omega⟩
  have s5 := Sub.new (o := .lst (.str (nS e.cost) :: (e.rooms.map nS).map .str)) n5
  refine se_integers_of (is := e.cost :: e.rooms) up_same nine ?_
  intro g6 μ3 s6 n6 f6
  rw [List.map_cons] at f6
  have fw := s6 _ _ (s5 _ _ fw)
  have h1 := s6 _ _ (s5 _ _ h1)
  have h2 := s6 _ _ (s5 _ _ h2)
  have h3 := s6 _ _ (s5 _ _ h3)
  decreasing_with simp only [↓i_lst fw, ↓i_lst h3, ↓f_lenL h3, ↓c_nes]
  have hs := R.st
  refine se_integer_of ⟨by omega, by omega⟩ ?_
  decreasing_with simp only [↓i_lst fw, ↓i_lst h3, ↓i_lst h2, ↓i_lst h1, ↓i_lst f6, ↓e_slcS, ↓sl_L h1, ↓sl_L f6, c1]
  refine se_integer_of ⟨by omega, by omega⟩ ?_
  decreasing_trivial_pre_omega
  exact rt_here (p μ3 (Sub.trans s0 (Sub.trans sw (Sub.trans s5 s6))))
end

abbrev LO := Sum Lot Odr
def rowO : LO → List PV
  | .inl l => lotV l
  | .inr o => odrV o
def losE (e : Elv) : List LO := e.lots.map .inl ++ e.odrs.map .inr
theorem los_rows {e : Elv} : (losE e).map rowO = e.lots.map lotV ++ e.odrs.map odrV := by
  unfold losE
  rw [List.map_append, List.map_map, List.map_map]
  rfl
theorem los_lots {e : Elv} : (losE e).filterMap Sum.getLeft? = e.lots := by
  unfold losE
  rw [List.filterMap_append]
  have h1 : ∀ l : List Lot, (l.map (Sum.inl : Lot → LO)).filterMap Sum.getLeft? = l := fun l => by
    induction l with
    | nil => rfl
    | cons x r ih => show x :: _ = _; rw [ih]
  have h2 : ∀ l : List Odr, (l.map (Sum.inr : Odr → LO)).filterMap Sum.getLeft? = [] := fun l => by
    induction l with
    | nil => rfl
    | cons x r ih => exact ih
  rw [h1, h2, List.append_nil]
theorem los_odrs {e : Elv} : (losE e).filterMap Sum.getRight? = e.odrs := by
  unfold losE
  rw [List.filterMap_append]
  have h1 : ∀ l : List Lot, (l.map (Sum.inl : Lot → LO)).filterMap Sum.getRight? = [] := fun l => by
    induction l with
    | nil => rfl
    | cons x r ih => exact ih
  have h2 : ∀ l : List Odr, (l.map (Sum.inr : Odr → LO)).filterMap Sum.getRight? = l := fun l => by
    induction l with
    | nil => rfl
    | cons x r ih => show x :: _ = _; rw [ih]
  rw [h1, h2, List.nil_append]
theorem los_pw {e : Elv} : (losE e).Pairwise fun a b => ¬ (a.isRight = true ∧ b.isLeft = true) := by
  unfold losE
  rw [List.pairwise_append]
  refine ⟨List.pairwise_map.mpr (List.pairwise_of_forall fun _ _ h => by simp at h), List.pairwise_map.mpr (List.pairwise_of_forall fun _ _ h => by simp at h), fun a ha b hb h => ?_⟩
  obtain ⟨x, _, rfl⟩ := List.mem_map.mp ha
  simp at h
theorem los_first {e : Elv} {pre post : List LO} {l : Lot} (h : losE e = pre ++ .inl l :: post) : pre.filterMap Sum.getRight? = [] := by
  have := los_pw (e := e)
  rw [h, List.pairwise_append] at this
  refine List.filterMap_eq_nil_iff.mpr fun x hx => ?_
  have := this.2.2 x hx (.inl l) List.mem_cons_self
  cases x with
  | inl _ => rfl
  | inr _ => exact absurd ⟨rfl, rfl⟩ this
section
variable {FT : Nat → Option FI} [B : Base FT] {k n : Nat} {μ : PM} {P : Post} {X : XPost} {a b : Addr} {e : Elv}
theorem se_read_rows (R : Right e) (hb : μ b = some (.lst (pvS ((e.lots.map lotV ++ e.odrs.map odrV).map lineS)))) (p : ∀ μ', Sub μ μ' → P (.tup [.tup (e.lots.map lotP), .tup (e.odrs.map odrP)]) μ') : (CS2 FT (k + 5)).fn F.read_rows [.int e.ms.length, .ref b] μ P X := by
  have ms := R.ms
  have rl := R.rl
  have ll := R.ll
  have ol := R.ol
  refine fn_run B.read_rows rfl ?_
  unfold fi_read_rows
  rw [← los_rows] at hb
  decreasing_with simp only [↓s_loop']
  intro c hc
  have sc := Sub.new (o := .lst []) hc
  have fc : up μ c (.lst []) c = some (.lst []) := up_same
  generalize up μ c (.lst []) = μ1 at *
  intro d hd
  have sd := Sub.new (o := .lst []) hd
  have fd : up μ1 d (.lst []) d = some (.lst []) := up_same
  have ncd : c ≠ d := fun z => by subst z; rw [fc] at hd; cases hd
  have fc := sd _ _ fc
  have hb2 := sd _ _ (sc _ _ hb)
  have s0 := Sub.trans sc sd
  have ndm : μ d = none := by
    cases h : μ d with
    | none => rfl
    | some o => rw [sc _ _ h] at hd; cases hd
  generalize up μ1 d (.lst []) = μ2 at *
  have ei : ∀ μ' : PM, μ' b = some (.lst (pvS (((losE e).map rowO).map lineS))) → itemsOf μ' .enum [.ref b] = some ((List.range ((losE e).map fun x => PV.str (lineS (rowO x))).length).zipWith (fun (i : Nat) v => PV.tup [.int i, v]) ((losE e).map fun x => PV.str (lineS (rowO x)))) := fun μ' h => by
    have e1 : (losE e).map (fun x => PV.str (lineS (rowO x))) = pvS (((losE e).map rowO).map lineS) := by
      unfold pvS
      rw [List.map_map, List.map_map]
      rfl
    rw [e1]
    show (itS μ' (.ref b)).map (fun xs => (List.range xs.length).zipWith (fun (i : Nat) v => PV.tup [.int i, v]) xs) = _
    simp only [itS, seqOf, h]
    rfl
  refine ⟨_, ei _ hb2, walk_e (losE e) rfl (g := fun x => PV.str (lineS (rowO x))) (I := fun pre ρ μ' => (∃ x4 x5 x6 x7 x8, ρ = [some (.int e.ms.length), some (.ref b), some (.ref c), some (.ref d), x4, x5, x6, x7, x8]) ∧ Sub μ μ' ∧ μ' c = some (.lst ((pre.filterMap Sum.getLeft?).map lotP)) ∧ μ' d = some (.lst ((pre.filterMap Sum.getRight?).map odrP))) ?_ ?_ ?_ ?_⟩
  · exact ⟨⟨_, _, _, _, _, rfl⟩, s0, fc, fd⟩
  · rintro pre ρ μ' ⟨_, s, _, _⟩
    exact ei _ (s _ _ hb)
  · rintro pre x post ρ μ' Q eq ⟨⟨x4, x5, x6, x7, x8, rfl⟩, s3, f3, g3⟩ hQ
    have hx : rowO x ∈ rowsV e := by
      have : x ∈ losE e := by rw [eq]; simp
      have : rowO x ∈ (losE e).map rowO := List.mem_map_of_mem this
      rw [los_rows] at this
      unfold rowsV
      rw [List.append_assoc]
      exact List.mem_append_right _ this
    have hne : rowO x ≠ [] := by cases x <;> exact List.cons_ne_nil _ _
    have hlen : pre.length < 20 := by
      have : (losE e).length = e.lots.length + e.odrs.length := by unfold losE; simp
      rw [eq, List.length_append, List.length_cons] at this
      omega
    have hlf := List.length_filterMap_le (Sum.getLeft? : LO → _) pre
    have hrf := List.length_filterMap_le (Sum.getRight? : LO → _) pre
    have ndm' : ∀ {μ' μ'' : PM}, Sub μ' μ'' → True := fun _ => trivial
    decreasing_trivial_pre_omega
    refine ⟨⟨_, rfl⟩, bm_line R hx hne ?_⟩
    show mat (.tmp _) _ _
    decreasing_trivial_pre_omega
    intro g hg
    have sg := Sub.new (o := .lst (pvS ((rowO x).map wdS))) hg
    have fg : up μ' g (.lst (pvS ((rowO x).map wdS))) g = some (.lst (pvS ((rowO x).map wdS))) := up_same
    cases x with
    | inl l =>
      have r := R.lots l (by
        have : (.inl l : LO) ∈ losE e := by rw [eq]; simp
        unfold losE at this
        simpa using this)
      have z := los_first eq
      refine se_read_lot r (by omega) (by omega) fg fun μ3 s4 => ?_
      decreasing_trivial_pre_omega
      refine se_no_order (by omega) (s4 _ _ fg) ?_ ?_
      · show (((lotV l).map wdS).map PV.str).length ≠ _
        rw [lot_ws]
        unfold pvS
        simp only [List.length_cons, List.length_map]
        rw [tkI_len, r.tl]
        omega
      have f4 := s4 _ _ (sg _ _ f3)
      have g4 := s4 _ _ (sg _ _ g3)
      rw [z] at g4
      decreasing_with simp only [↓f_lenL g4]
      refine ⟨bt_lst f4 rfl, ap_lst f4 (by rw [List.length_map]; omega) ?_⟩
      refine hQ _ _ ⟨⟨_, _, _, _, _, rfl⟩, sub_put (Sub.trans s3 (Sub.trans sg s4)) hc, ?_, ?_⟩
      · rw [up_same, List.filterMap_append, List.map_append]
        rfl
      · rw [up_ne (Ne.symm ncd), g4, List.filterMap_append, z]
        rfl
    | inr o =>
      have r := R.odrs o (by
        have : (.inr o : LO) ∈ losE e := by rw [eq]; simp
        unfold losE at this
        simpa using this)
      refine se_no_lot (by omega) fg ?_ ?_
      · show (((odrV o).map wdS).map PV.str).length ≠ _
        rw [odr_ws]
        unfold pvS
        simp only [List.length_cons, List.length_map]
        rw [lmO_len, r.tl]
        omega
      decreasing_trivial_pre_omega
      refine se_read_order r (by omega) (by omega) fg fun μ3 s4 => ?_
      have f4 := s4 _ _ (sg _ _ f3)
      have g4 := s4 _ _ (sg _ _ g3)
      decreasing_trivial_pre_omega
      refine ⟨bt_lst g4 rfl, ap_lst g4 (by rw [List.length_map]; omega) ?_⟩
      refine hQ _ _ ⟨⟨_, _, _, _, _, rfl⟩, sub_put (Sub.trans s3 (Sub.trans sg s4)) ndm, ?_, ?_⟩
      · rw [up_ne ncd, f4, List.filterMap_append]
        simp
      · rw [up_same, List.filterMap_append, List.map_append]
        rfl
  · rintro ρ μ' ⟨⟨x4, x5, x6, x7, x8, rfl⟩, s3, f3, g3⟩
    rw [los_lots] at f3
    rw [los_odrs] at g3
    decreasing_with simp only [↓f_tupL f3, ↓f_tupL g3]
    exact rt_here (p _ s3)
end

section
variable {FT : Nat → Option FI} [B : Base FT] {k n : Nat} {μ : PM} {P : Post} {X : XPost} {a b : Addr} {e : Elv}
theorem se_read (R : Right e) (p : ∀ μ1 b, Sub μ μ1 → μ1 b = none → P (.ref b) (up μ1 b (.ins "Elevator" (fldsP e)))) : (CS2 FT (k + 10)).fn F.read_elevator [.str (textE e)] μ P X := by
  have ms := R.ms
  have rl := R.rl
  obtain ⟨t1, t2, t3⟩ := text_len R
  have hs := text_split R
  have hz : 10000 ≤ sizeLine := by decide
  refine fn_run B.read_elevator rfl ?_
  unfold fi_read_elevator
  decreasing_trivial_pre_omega
  have es : (Txt.split (textE e) "\n").map PV.str = linesP e ++ [.str ""] := by
    rw [hs, List.map_append]
    rfl
  have lp : (linesP e).length ≤ 23 := by
    unfold linesP pvS
    rw [List.length_map, List.length_map]
    rwa [List.length_map] at t2
  refine ⟨⟨_, rfl⟩, ⟨by decide, by omega, ?_, fun y hy => ?_, ?_⟩⟩
  · rw [hs, List.length_append, List.length_map]
    rw [List.length_map] at t2
    show _ + 1 ≤ _
    omega
  · rw [hs] at hy
    rcases List.mem_append.mp hy with hy | hy
    · obtain ⟨r, hr, rfl⟩ := List.mem_map.mp hy
      obtain ⟨o1, o2⟩ := rows_ok R r hr
      have := (line_len o1).1
      omega
    · rw [List.mem_singleton.mp hy]
      exact Nat.zero_le _
  rw [es]
  decreasing_trivial_pre_omega
  intro g hg
  refine ⟨bt_lst up_same rfl, linesP e ++ [.str ""], .str "", up_same, by simp, ?_⟩
  rw [up_up, List.dropLast_concat]
  have sg := Sub.new (o := .lst (linesP e)) hg
  have fg : up μ g (.lst (linesP e)) g = some (.lst (linesP e)) := up_same
  generalize up μ g (.lst (linesP e)) = μ1 at *
  decreasing_trivial_pre_omega
  refine se_read_head (k := k + 4) R fg fun μ2 s2 => ?_
  have f2 := s2 _ _ fg
  have c3 : cutP (linesP e) (some 3) none = pvS ((e.lots.map lotV ++ e.odrs.map odrV).map lineS) := by
    rw [show (some (3 : Int)) = some ((3 : Nat) : Int) from rfl, cut_drop, linesP_eq]
    rfl
  decreasing_with simp only [↓e_slcS, ↓sl_L f2, c3]
  intro g3 n3
  have s3 := Sub.new (o := .lst (pvS ((e.lots.map lotV ++ e.odrs.map odrV).map lineS))) n3
  rw [List.length_map]
  refine se_read_rows (k := k + 4) R up_same fun μ4 s4 => ?_
  decreasing_with simp only [↓c_nes]
  intro b hb
  refine sp_newE R fun μ' sb => ⟨rfl, ?_⟩
  exact ⟨_, sb, p _ b (Sub.trans sg (Sub.trans s2 (Sub.trans s3 s4))) hb⟩
end

theorem two_ints {ns : List Int} {a b : Int} (h : ns.Perm [a, b]) (s : ns.Pairwise (· ≤ ·)) : ∃ x y, ns = [x, y] ∧ x ≤ y ∧ (x = a ∨ x = b) ∧ (y = a ∨ y = b) := by
  have hl := h.length_eq
  match ns, hl with
  | [x, y], _ =>
    refine ⟨x, y, rfl, ?_, ?_, ?_⟩
    · simpa using s
    · have := h.mem_iff (a := x); simpa using this
    · have := h.mem_iff (a := y); simpa using this
section
variable {FT : Nat → Option FI} [B : Base FT] {k n : Nat} {μ : PM} {P : Post} {X : XPost} {h a : Addr} {C : Nat} {e : Elv}
theorem sl_limits (H : HandOk μ h a C) (hC : C ≤ 900000) {m : Nat} (hm : m ≤ 3) (p : ∀ (ls : List (Option Int × Option Int)) μ', ls.length = m → (∀ q ∈ ls, RtLim q) → HandOk μ' h a (C + 9) → Bey h μ μ' → P (.tup (ls.map limP)) μ') : (CS2 FT (k + 5)).fn F._law_limits [.ref h, .int (m : Int)] μ P X := by
  refine fn_run B._law_limits rfl ?_
  unfold fi__law_limits
  decreasing_trivial_pre_omega
  intro f hf
  have nf : f ≠ h := H.ne hf
  have nfa : f ≠ a := H.neA hf
  have mf0 : μ f = none := hf
  decreasing_with simp only [↓s_loop']
  refine ⟨_, it_rng (by omega), walk_r (List.replicate m ()) (by rw [List.length_replicate]) (I := fun pre ρ μ' => (∃ x3 x4 x5 x6, ρ = [some (.ref h), some (.int (m : Int)), some (.ref f), x3, x4, x5, x6]) ∧ ∃ ls : List (Option Int × Option Int), ls.length = pre.length ∧ (∀ q ∈ ls, RtLim q) ∧ μ' f = some (.lst (ls.map limP)) ∧ HandOk μ' h a (C + 3 * pre.length) ∧ Bey h μ μ') ?_ ?_ ?_ ?_⟩
  · exact ⟨⟨_, _, _, _, rfl⟩, [], rfl, (by intro w hw; cases hw), up_same, H.sub (Sub.new hf), Bey.of (Sub.new hf)⟩
  · intro _ _ _ _; exact it_rng (by omega)
  · rintro pre u post ρ μ' Q e ⟨⟨x3, x4, x5, x6, rfl⟩, ls, w1, w2, w4, H1, B1⟩ hQ
    have hp : pre.length < m := by
      have := congrArg List.length e
      simp at this
      omega
    decreasing_trivial_pre_omega
    refine sp__law_draw H1 (by omega) (by omega) (by omega) fun d1 μ2 r0 r1 H2 B2 => ?_
    decreasing_trivial_pre_omega
    refine sp__law_draw H2 (by omega) (by omega) (by omega) fun d2 μ3 r2 r3 H3 B3 => ?_
    decreasing_trivial_pre_omega
    refine ⟨_, [d1, d2], rfl, rfl, fun ns hn hs => ?_⟩
    obtain ⟨lo, hi, rfl, le, q1, q2⟩ := two_ints hn hs
    have z1 : 0 ≤ lo ∧ lo ≤ 1000 := by omega
    have z2 : 0 ≤ hi ∧ hi ≤ 1000 := by omega
    refine ⟨[.int lo, .int hi], rfl, ?_⟩
    decreasing_trivial_pre_omega
    refine sp__law_draw H3 (by omega) (by omega) (by omega) fun kd μ4 r4 r5 H4 B4 => ?_
    have B4 : Bey h μ' μ4 := Bey.trans B2 (Bey.trans B3 B4)
    decreasing_trivial_pre_omega
    refine ⟨bt_lst (B4 f _ nf w4) rfl, ?_⟩
    have fin : ∀ (ol oh : Option Int), (ol = none ∨ ol = some lo) → (oh = none ∨ oh = some hi) → bmW .append (.ref f) [.tup [optP ol, optP oh]] μ4 fun x μ1 => Q [some (PV.ref h), some (.int (m : Int)), some (.ref f), some (.int (pre.length : Int)), some (.int kd), some (.int lo), some (.int hi)] μ1 := fun ol oh zl zh => by
      refine ap_lst (B4 f _ nf w4) (by simp; omega) ?_
      refine hQ _ _ ⟨⟨_, _, _, _, rfl⟩, ls ++ [(ol, oh)], by simp [w1], ?_, ?_, ?_, ?_⟩
      · intro l hl
        rcases List.mem_append.mp hl with hl | hl
        · exact w2 l hl
        · rw [List.mem_singleton] at hl; subst hl
          refine ⟨fun i hi' => ?_, fun i hi' => ?_, fun i j hi' hj => ?_⟩
          · rcases zl with rfl | rfl <;> cases hi'; exact z1
          · rcases zh with rfl | rfl <;> cases hi'; exact z2
          · rcases zl with rfl | rfl <;> cases hi'; rcases zh with rfl | rfl <;> cases hj; exact le
      · rw [up_same, List.map_append]; rfl
      · rw [List.length_append]
        exact (H4.mono (by simp; omega)).put nf nfa
      · exact (Bey.trans B1 B4).put mf0
    cases decide (kd < 3)
    · decreasing_trivial_pre_omega
      refine ⟨_, rfl, rfl, rfl, ?_⟩
      cases List.any _ _
      · decreasing_trivial_pre_omega
        exact fin (some lo) (some hi) (.inr rfl) (.inr rfl)
      · decreasing_trivial_pre_omega
        exact fin (some lo) none (.inr rfl) (.inl rfl)
    · decreasing_trivial_pre_omega
      refine ⟨_, rfl, rfl, rfl, ?_⟩
      cases List.any _ _
      · decreasing_trivial_pre_omega
        exact fin none (some hi) (.inl rfl) (.inr rfl)
      · decreasing_trivial_pre_omega
        exact fin none none (.inl rfl) (.inl rfl)
  · rintro ρ μ' ⟨⟨x3, x4, x5, x6, rfl⟩, ls, w1, w2, w4, H1, B1⟩
    decreasing_with simp only [↓f_tupL w4]
    rw [List.length_replicate] at w1 H1
    exact rt_here (p ls μ' w1 w2 (H1.mono (by omega)) B1)
end

theorem right_odrs {e : Elv} (R : Right e) {os : List Odr} (h1 : os.length ≤ 8) (h2 : ∀ o ∈ os, RtOdr e.ms.length e.rooms.length o) (h3 : (os.map (·.name)).Nodup) : Right { e with odrs := os } :=
  ⟨R.ms, R.mn, R.md, R.own, R.cost, R.rl, R.rooms, R.ll, R.lots, R.ln, h1, h2, h3, R.st⟩
def tl_sp1 : List S := fi__law_spec.body.drop 1
def tl_sp2 : List S := fi__law_spec.body.drop 2
section
variable {FT : Nat → Option FI} [B : Base FT] {k n : Nat} {μ : PM} {P : Post} {X : XPost} {h a : Addr} {C : Nat} {e : Elv}
theorem sl_spec (H : HandOk μ h a C) (hC : C ≤ 600000) {nl no : Nat} (hnl : nl ≤ 11) (hno : no ≤ 7) {wide : Int} (w0 : 1 ≤ wide) (w1 : wide ≤ 1000000)
    (p : ∀ e μ', Right e → e.lots.length ≤ nl → e.odrs.length ≤ no → HandOk μ' h a (C + 1000) → Bey h μ μ' → P (specE e) μ') : (CS2 FT (k + 7)).fn F._law_spec [.ref h, .int (nl : Int), .int (no : Int), .int wide] μ P X := by
  refine fn_run B._law_spec rfl ?_
  show wpSs _ (_ :: tl_sp1) _ (startP 17 _) _
  decreasing_trivial_pre_omega
  refine sp__law_draw H (by omega) (by omega) (by omega) fun d1 μ1 r0 r1 H1 B1 => ?_
  decreasing_trivial_pre_omega
  refine sp__law_draw H1 (by omega) (by omega) (by omega) fun d2 μ2 r2 r3 H2 B2 => ?_
  decreasing_trivial_pre_omega
  refine sp__law_draw H2 (by omega) (by omega) (by omega) fun d3 μ3 r4 r5 H3 B3 => ?_
  decreasing_trivial_pre_omega
  obtain ⟨m, rfl⟩ := Int.eq_ofNat_of_zero_le r0
  obtain ⟨ds, rfl⟩ := Int.eq_ofNat_of_zero_le r2
  obtain ⟨np, rfl⟩ := Int.eq_ofNat_of_zero_le r4
  intro b0 hb0
  rw [show (1 : Int) + (np : Int) = ((1 + np : Nat) : Int) by omega, show (1 : Int) + (ds : Int) = ((1 + ds : Nat) : Int) by omega, show (1 : Int) + (m : Int) = ((1 + m : Nat) : Int) by omega]
  refine sp__law_names (H3.sub (Sub.new hb0)) (by omega) (by omega) up_same (H3.ne hb0) fun ps μ4 l1 l2 l3 H4 B4 => ?_
  have B4 : Bey h μ μ4 := Bey.trans B1 (Bey.trans B2 (Bey.trans B3 (Bey.trans (Bey.of (Sub.new hb0)) B4)))
  decreasing_trivial_pre_omega
  show wpSs _ (_ :: tl_sp2) _ _ _
  decreasing_trivial_pre_omega
  refine sp__law_draw H4 (by omega) (by omega) (by omega) fun d5 μ5 r6 r7 H5 B5 => ?_
  obtain ⟨ll, rfl⟩ := Int.eq_ofNat_of_zero_le r6
  decreasing_trivial_pre_omega
  refine sl_stock H5 (by omega) (by omega) (by omega) (by omega) (by omega) (by omega) w0 w1 (by omega) (by omega) l3 fun e μ6 R eo em el er H6 B6 => ?_
  have B6 : Bey h μ μ6 := Bey.trans B4 (Bey.trans B5 B6)
  decreasing_trivial_pre_omega
  unfold tl_sp2 fi__law_spec
  decreasing_with simp only [List.drop_succ_cons, List.drop_zero]
  intro f hf
  have nf := H6.ne hf
  have nfa := H6.neA hf
  have H7 := H6.sub (Sub.new (o := .lst []) hf)
  have B7 : Bey h μ (up μ6 f (.lst [])) := Bey.trans B6 (Bey.of (Sub.new hf))
  have mf : up μ6 f (.lst []) f = some (.lst []) := up_same
  have hf0 : μ f = none := by
    cases z : μ f with
    | none => rfl
    | some o => have := B6 f o nf z; rw [hf] at this; cases this
  generalize up μ6 f (.lst []) = μ7 at H7 B7 mf ⊢
  decreasing_with simp only [↓s_loop']
  refine sp__law_draw H7 (by omega) (by omega) (by omega) fun d8 μ8 r8 r9 H8 B8 => ?_
  obtain ⟨ol, rfl⟩ := Int.eq_ofNat_of_zero_le r8
  decreasing_trivial_pre_omega
  intro b9 hb9
  refine sp__law_names (H8.sub (Sub.new hb9)) (by omega) (by omega) up_same (H8.ne hb9) fun ws μ9 n1 n2 n3 H9 B9 => ?_
  have B9 : Bey h μ7 μ9 := Bey.trans B8 (Bey.trans (Bey.of (Sub.new hb9)) B9)
  have mf9 := B9 f _ nf mf
  have B9 : Bey h μ μ9 := Bey.trans B7 B9
  refine ⟨_, rfl, walk_m ws rfl (I := fun pre ρ μ' => (∃ x5 x13 x14 x15 x16, ρ = [some (.ref h), some (.int (nl : Int)), some (.int (no : Int)), some (.int wide), some (.ref f), x5, some (.int ((1 + m : Nat) : Int)), some (.int ((1 + ds : Nat) : Int)), some (.tup (ps.map .str)), some (.tup (e.ms.map .str)), some (.tup (e.lots.map lotP)), some (dryP e), some (.int e.st), x13, x14, x15, x16]) ∧
    ∃ os : List Odr, os.map (·.name) = pre ∧ (∀ l ∈ os, RtOdr (1 + m) (1 + ds) l) ∧ μ' f = some (.lst (os.map odrP)) ∧ HandOk μ' h a (C + 640 + 20 * pre.length) ∧ Bey h μ μ') ?_ ?_ ?_ ?_⟩
  · exact ⟨⟨_, _, _, _, _, rfl⟩, [], rfl, (by intro w hw; cases hw), mf9, H9.mono (by simp; omega), B9⟩
  · intro _ _ _ _; rfl
  · rintro pre w post ρ μ' Q eq ⟨⟨x5, x13, x14, x15, x16, rfl⟩, os, q1, q2, q3, G5, A5⟩ hQ
    have hp : pre.length < ol := by
      have := congrArg List.length eq
      simp at this
      omega
    have hwn : isName w := n3 w (by rw [eq]; simp)
    have hls : os.length = pre.length := by rw [← q1]; simp
    decreasing_trivial_pre_omega
    refine sp__law_draw G5 (by omega) (by omega) (by omega) fun c1 ν1 s0 s1 G1 A1 => ?_
    decreasing_trivial_pre_omega
    refine any_newI G1 (by omega) (fun n => 0 ≤ n ∧ n ≤ wide) (by simp) (by simp) (fun v hv => in1 (by omega) (in1 (by omega) (in1 (by omega) in0)) hv) fun low ν2 hlow G2 A2 => ?_
    decreasing_trivial_pre_omega
    refine sp__law_draw G2 (by omega) (by omega) (by omega) fun c3 ν3 s2 s3 G3 A3 => ?_
    decreasing_trivial_pre_omega
    refine sp__law_draw G3 (by omega) (by omega) (by omega) fun c4 ν4 s4 s5 G4 A4 => ?_
    decreasing_trivial_pre_omega
    refine any_newI G4 (by omega) (fun n => -50 ≤ n ∧ n ≤ 51) (by simp) (by simp) (fun v hv => in1 (by omega) (in1 (by omega) (in1 (by omega) in0)) hv) fun price ν5 hprice G5 A5' => ?_
    decreasing_trivial_pre_omega
    refine sp__law_draw G5 (by omega) (by omega) (by omega) fun day ν6 s6 s7 G6 A6 => ?_
    have A6 : Bey h μ' ν6 := Bey.trans A1 (Bey.trans A2 (Bey.trans A3 (Bey.trans A4 (Bey.trans A5' A6))))
    decreasing_trivial_pre_omega
    refine ⟨bt_lst (A6 f _ nf q3) rfl, ?_⟩
    decreasing_trivial_pre_omega
    refine any_N G6 (by omega) (by omega) (by omega) l3 fun ow ν7 how G7 A7 => ?_
    decreasing_trivial_pre_omega
    refine sl_limits G7 (by omega) (by omega) fun ls ν8 z1 z2 G8 A8 => ?_
    have A8 : Bey h μ' ν8 := Bey.trans A6 (Bey.trans A7 A8)
    decreasing_trivial_pre_omega
    refine ap_lst (A8 f _ nf q3) (by simp; omega) ?_
    refine hQ _ _ ⟨⟨_, _, _, _, _, rfl⟩, os ++ [⟨w, ow, day, low, low + c3, price, ls⟩], by simp [q1], ?_, ?_, ?_, ?_⟩
    · intro l hl
      rcases List.mem_append.mp hl with hl | hl
      · exact q2 l hl
      · rw [List.mem_singleton] at hl; subst hl
        exact ⟨hwn, how, by simp only; omega, by simp only; omega, by simp only; omega, by simp only; omega, z1, z2⟩
    · rw [up_same, List.map_append]; rfl
    · rw [List.length_append]
      exact (G8.mono (by simp; omega)).put nf nfa
    · exact (Bey.trans A5 A8).put hf0
  · rintro ρ μ' ⟨⟨x5, x13, x14, x15, x16, rfl⟩, os, q1, q2, q3, G5, A5⟩
    have hos : os.length = ol := by rw [← n1, ← q1]; simp
    decreasing_with simp only [↓f_tupL q3]
    refine rt_here (p { e with odrs := os } μ' (right_odrs R (by omega) (by rw [em, er]; exact q2) (by rw [q1]; exact n2)) (by show e.lots.length ≤ nl; omega) (by show os.length ≤ no; omega) (G5.mono (by omega)) A5)
end

abbrev wordsL : List Str := ["lot", "order", "measures", "dryer", "storing", "a"]
theorem words_n : ∀ w ∈ wordsL, isName w := by
  intro x hx
  simp only [wordsL, List.mem_cons, List.not_mem_nil, or_false] at hx
  rcases hx with rfl | rfl | rfl | rfl | rfl | rfl <;> exact ⟨by decide, by decide, by decide⟩
theorem cnt_s (w : Str) (ws : List Str) : ((ws.map PV.str).countP fun y => eqP y (.str w)) = ws.count w := by
  induction ws with
  | nil => rfl
  | cons x r ih =>
    rw [List.map_cons, List.countP_cons, ih, List.count_cons]
    rfl
theorem flat_s (ws : List Str) : (ws.map PV.str).all flatP = true := by
  induction ws with
  | nil => rfl
  | cons x r ih => rw [List.map_cons, List.all_cons, ih]; rfl
/-- the name of a place -/
def nmAt (i : Nat) : Str := ⟨#[97 + i]⟩
theorem nmAt_n {i : Nat} (h : i < 12) : isName (nmAt i) := ⟨Nat.le_refl 1, show 1 ≤ 8 by decide, fun c hc => by
  have : c ∈ [97 + i] := hc
  rw [List.mem_singleton] at this
  omega⟩
theorem nmAt_i {i j : Nat} (h : nmAt i = nmAt j) : i = j := by
  have : (nmAt i).cps.toList = (nmAt j).cps.toList := by rw [h]
  have : [97 + i] = [97 + j] := this
  simpa using this
def reN (p : Nat × Lot) : Lot := { p.2 with name := nmAt p.1 }
def reL (ls : List Lot) : List Lot := ((List.range ls.length).zip ls).map reN
theorem reL_len {ls : List Lot} : (reL ls).length = ls.length := by simp [reL]
theorem reL_names {ls : List Lot} : (reL ls).map (·.name) = (List.range ls.length).map nmAt := by
  unfold reL
  rw [List.map_map]
  have : ((fun x : Lot => x.name) ∘ reN) = nmAt ∘ Prod.fst := rfl
  rw [this, ← List.map_map, List.map_fst_zip (by simp)]
theorem reL_ok {m d : Nat} {ls : List Lot} (hl : ls.length ≤ 12) (h : ∀ l ∈ ls, RtLot m d l) : ∀ l ∈ reL ls, RtLot m d l := fun l hl' => by
  obtain ⟨⟨i, x⟩, hp, rfl⟩ := List.mem_map.mp hl'
  obtain ⟨h1, h2⟩ := List.of_mem_zip hp
  rw [List.mem_range] at h1
  have r := h x h2
  exact ⟨nmAt_n (by omega), r.owner, r.day, r.w, r.tl, r.tk⟩
theorem reL_nd {ls : List Lot} : ((reL ls).map (·.name)).Nodup := by
  rw [reL_names]
  refine List.Pairwise.map _ (fun a b hab => ?_) List.nodup_range
  exact fun e => hab (nmAt_i e)
theorem nd_of {ws : List Str} (h : (ws.filter fun w => decide ((1 : Int) < ((ws.count w : Nat) : Int))) = []) : ws.Nodup := by
  rw [List.nodup_iff_count]
  intro a
  by_cases z : a ∈ ws
  · rw [List.filter_eq_nil_iff] at h
    have := h a z
    simp at this
    omega
  · rw [List.count_eq_zero_of_not_mem z]; omega
section
variable {FT : Nat → Option FI} [B : Base FT] {k n : Nat} {μ : PM} {P : Post} {X : XPost} {h a : Addr} {C : Nat} {e : Elv}
theorem any_newF (H : HandOk μ h a C) (hC : C ≤ 1000000) {xs : List (Int × Int)} (hx : xs ≠ []) (hl : xs.length ≤ 10000000) (q : ∀ v ∈ xs, 0 ≤ v.1 ∧ v.1 ≤ v.2 ∧ v.2 ≤ 1000) (p : ∀ n μ', (0 ≤ n.1 ∧ n.1 ≤ n.2 ∧ n.2 ≤ 1000) → HandOk μ' h a (C + 1) → Bey h μ μ' → P (fr n) μ') : ∀ b, μ b = none → (CS2 FT (k + 3)).fn F._law_any [.ref h, .ref b] (up μ b (.lst (xs.map fr))) P X :=
  any_new H hC (by simpa using hx) (by simpa using hl) (fun v hv => by obtain ⟨n, _, rfl⟩ := List.mem_map.mp hv; exact fun _ e => nomatch e) fun v μ' hv H' B' => by
    obtain ⟨n, hn, rfl⟩ := List.mem_map.mp hv
    exact p n μ' (q n hn) H' B'
theorem any_newL (H : HandOk μ h a C) (hC : C ≤ 1000000) {xs : List (Option Int × Option Int)} (hx : xs ≠ []) (hl : xs.length ≤ 10000000) (q : ∀ v ∈ xs, RtLim v) (p : ∀ n μ', RtLim n → HandOk μ' h a (C + 1) → Bey h μ μ' → P (limP n) μ') : ∀ b, μ b = none → (CS2 FT (k + 3)).fn F._law_any [.ref h, .ref b] (up μ b (.lst (xs.map limP))) P X :=
  any_new H hC (by simpa using hx) (by simpa using hl) (fun v hv => by obtain ⟨n, _, rfl⟩ := List.mem_map.mp hv; exact fun _ e => nomatch e) fun v μ' hv H' B' => by
    obtain ⟨n, hn, rfl⟩ := List.mem_map.mp hv
    exact p n μ' (q n hn) H' B'
theorem any_W (H : HandOk μ h a C) (hC : C ≤ 1000000) {b : Addr} (hb : μ b = some (.lst (wordsL.map .str))) (nb : b ≠ h) (p : ∀ w μ', isName w → HandOk μ' h a (C + 1) → Bey h μ μ' → P (.str w) μ') : (CS2 FT (k + 3)).fn F._law_any [.ref h, .ref b] μ P X :=
  sp__law_any H hC hb nb (by simp) (by simp) (fun v hv => by obtain ⟨w, _, rfl⟩ := List.mem_map.mp hv; exact nt_str) fun v μ' hv H' B' => by
    obtain ⟨w, hw, rfl⟩ := List.mem_map.mp hv
    exact p w μ' (words_n w hw) H' B'
def tl_en1 : List S := fi__law_ends.body.drop 1
def tl_en2 : List S := fi__law_ends.body.drop 2
def tl_en3 : List S := fi__law_ends.body.drop 3
def tl_en5 : List S := fi__law_ends.body.drop 5
def tl_en6 : List S := fi__law_ends.body.drop 6
def bodyL : List S → List S
  | .loop _ _ _ b :: _ => b
  | _ => []
def en_bl : List S := bodyL tl_en1
def en_ol : List S := bodyL tl_en2
def en_b : List S := (bodyL tl_en1).drop 1
theorem new_of {μ μ' : PM} {f : Addr} (nf : f ≠ h) (B1 : Bey h μ μ') (hf : μ' f = none) : μ f = none := by
  cases z : μ f with
  | none => rfl
  | some o => have := B1 f o nf z; rw [hf] at this; cases this
theorem any_c {β : Type} {g : β → PV} (Pd : β → Prop) (ng : ∀ x, NT (g x)) {more : List β} (hm : ∀ x ∈ more, Pd x) (ml : more.length ≤ 10) (H : HandOk μ h a C) (hC : C ≤ 600000) {l : List β} (hl : l.length ≤ 3) (ht : ∀ p ∈ l, Pd p) {st : PM → Prop} (hst : ∀ μ, st μ) {step : PV → PM → (Option PV → PM → Prop) → Prop} {fin : List PV → PM → Prop}
    (hs : ∀ q μ' (Q : Option PV → PM → Prop), q ∈ l → (∀ b, μ' b = none → (CS2 FT (k + 5 + 1)).fn F._law_any [.ref h, .ref b] (up μ' b (.lst ((q :: more).map g))) (fun v μ2 => mat v μ2 fun v' μ3 => Q (some v') μ3) (fun _ _ => False)) → step (g q) μ' Q)
    (p : ∀ (t2 : List β) μ', t2.length = l.length → (∀ p ∈ t2, Pd p) → HandOk μ' h a (C + 3) → Bey h μ μ' → fin (t2.map g) μ') : compW st step fin (l.map g) [] μ := by
  refine comp_inv (I := fun pre acc μ' => ∃ cs : List β, acc = cs.map g ∧ cs.length = pre.length ∧ (∀ p ∈ cs, Pd p) ∧ HandOk μ' h a (C + pre.length) ∧ Bey h μ μ') ?_ ?_ ?_ ?_
  · exact ⟨[], rfl, rfl, (by intro c hc; cases hc), H, Bey.refl⟩
  · intro _ _ _ _; exact hst _
  · rintro pre x post acc μ' Q e ⟨cs, rfl, e1, e2, H', B'⟩ hQ
    have hp : pre.length < l.length := by
      have := congrArg List.length e
      simp at this
      omega
    obtain ⟨q, hq, rfl⟩ : ∃ q ∈ l, x = g q := by
      have : x ∈ l.map g := by rw [e]; simp
      obtain ⟨q, hq, rfl⟩ := List.mem_map.mp this
      exact ⟨q, hq, rfl⟩
    refine hs q μ' Q hq ?_
    have q1 := ht q hq
    refine any_new H' (by omega) (by simp) (by simp; omega) (fun v hv => by obtain ⟨n, _, rfl⟩ := List.mem_map.mp hv; exact ng n) fun v μ2 hv H2 B2 => ?_
    obtain ⟨n, hn, rfl⟩ := List.mem_map.mp hv
    rw [m_nt (ng n)]
    refine hQ _ _ ⟨cs ++ [n], by simp, by simp [e1], ?_, by rw [List.length_append]; exact H2, Bey.trans B' B2⟩
    intro y hy
    rcases List.mem_append.mp hy with hy | hy
    · exact e2 y hy
    · rw [List.mem_singleton] at hy; subst hy
      rcases List.mem_cons.mp hn with rfl | hn
      · exact q1
      · exact hm y hn
  · rintro acc μ' ⟨cs, rfl, e1, e2, H', B'⟩
    rw [List.length_map] at e1 H'
    exact p cs μ' e1 e2 (H'.mono (by omega)) B'
abbrev TkP (p : Int × Int) : Prop := 0 ≤ p.1 ∧ p.1 ≤ p.2 ∧ p.2 ≤ 1000
theorem cp6 : CPow 10 6 := ⟨by decide, by decide, by decide⟩
theorem cut3o {a b c d e f g : PV} : cutP [a, b, c, d, e, f, g] none (some 3) = [a, b, c] := rfl
theorem sl_ends (H : HandOk μ h a C) (hC : C ≤ 500000) (R : Right e) (el : e.lots.length ≤ 5)
    (p : ∀ e' μ', Right e' → e'.lots.length ≤ 5 → HandOk μ' h a (C + 1000) → Bey h μ μ' → P (specE e') μ') : (CS2 FT (k + 7)).fn F._law_ends [.ref h, specE e] μ P X := by
  have ms := R.ms
  have rl := R.rl
  have ol := R.ol
  refine fn_run B._law_ends rfl ?_
  show wpSs _ (_ :: tl_en1) _ (startP 16 _) _
  decreasing_trivial_pre_omega
  intro w hw
  have nw := H.ne hw
  intro f hf
  have nwf : w ≠ f := fun z => by subst z; rw [up_same] at hf; cases hf
  have mf0 : μ f = none := by rw [up_ne (Ne.symm nwf)] at hf; exact hf
  intro g hg
  have ngf : g ≠ f := fun z => by subst z; rw [up_same] at hg; cases hg
  rw [up_ne ngf] at hg
  have nwg : w ≠ g := fun z => by subst z; rw [up_same] at hg; cases hg
  rw [up_ne (Ne.symm nwg)] at hg
  generalize hM : up (up (up μ w _) f _) g _ = μ1
  have mw : μ1 w = some (.lst (wordsL.map .str)) := by rw [← hM, up_ne nwg, up_ne nwf, up_same]; rfl
  have mf : μ1 f = some (.lst []) := by rw [← hM, up_ne (Ne.symm ngf), up_same]
  have mg : μ1 g = some (.lst []) := by rw [← hM, up_same]
  have H1 : HandOk μ1 h a C := by rw [← hM]; exact ((H.put nw (H.neA hw)).put (H.ne mf0) (H.neA mf0)).put (H.ne hg) (H.neA hg)
  have B1 : Bey h μ μ1 := by rw [← hM]; exact ((Bey.refl.put hw).put mf0).put hg
  have nf := H.ne mf0
  have ng := H.ne hg
  have nfa := H.neA mf0
  have nga := H.neA hg
  clear hM
  show wpSs _ (.loop _ _ _ en_bl :: tl_en2) _ _ _
  decreasing_with simp only [↓s_loop']
  refine ⟨_, rfl, walk_e e.lots rfl (I := fun pre ρ μ' => (∃ x2 x3 x4 x8 x9 x10 x11 x12 x13 x14 x15, ρ = [some (.ref h), some (specE e), x2, x3, x4, some (.ref w), some (.ref f), some (.ref g), x8, x9, x10, x11, x12, x13, x14, x15]) ∧
    ∃ ls : List Lot, ls.length = pre.length ∧ (∀ l ∈ ls, RtLot e.ms.length e.rooms.length l) ∧ μ' f = some (.lst (ls.map lotP)) ∧ μ' w = some (.lst (wordsL.map .str)) ∧ μ' g = some (.lst []) ∧ HandOk μ' h a (C + 10 * pre.length) ∧ Bey h μ μ') ?_ ?_ ?_ ?_⟩
  · exact ⟨⟨_, _, _, _, _, _, _, _, _, _, _, rfl⟩, [], rfl, (by intro w hw; cases hw), mf, mw, mg, H1, B1⟩
  · intro _ _ _ _; rfl
  · rintro pre l post ρ μ' Q eq ⟨⟨x2, x3, x4, x8, x9, x10, x11, x12, x13, x14, x15, rfl⟩, ls, q1, q2, q3, q4, q5, G1, A1⟩ hQ
    have hp : pre.length < 5 := by
      have := congrArg List.length eq
      simp at this
      omega
    have r := R.lots l (by rw [eq]; simp)
    show asgT _ _ _ _ fun ρ2 μ2 => wpSs _ (_ :: en_b) _ ρ2 μ2
    decreasing_trivial_pre_omega
    refine sp__law_draw G1 (by omega) (by omega) (by omega) fun c1 ν1 s0 s1 G2 A2 => ?_
    decreasing_trivial_pre_omega
    have A2 : Bey h μ' ν1 := A2
    have fin : ∀ (D : PEnds) (nm : Str), D.nx = Q → isName nm → wpSs (CS2 FT (k + 5 + 1)) en_b D [some (.ref h), some (specE e), x2, x3, x4, some (.ref w), some (.ref f), some (.ref g), some (.int (pre.length : Int)), some (lotP l), some (.str nm), x11, x12, x13, x14, x15] ν1 := fun D nm hD hnm => by
      unfold en_b tl_en1 fi__law_ends
      simp only [List.drop_succ_cons, List.drop_zero, bodyL, startP, List.map_cons, List.map_nil, List.length_cons, List.length_nil, List.replicate_succ, List.replicate_zero, List.append_nil, List.cons_append, List.nil_append, Nat.reduceAdd, Nat.reduceSub, Nat.reduceLeDiff, List.zip_cons_cons, List.zip_nil_right, List.foldl_cons, List.foldl_nil, List.set_cons_zero, List.set_cons_succ, true_and, and_true, if_true, if_false, Bool.false_eq_true, Bool.not_true, Bool.not_false, Bool.true_eq_false, wipeP, nc, decide_true, decide_false, Int.reduceEq, Int.reduceLE, Int.reduceLT, Int.reduceNeg, Int.reduceSub, Int.reduceAdd, Int.reduceMul, Nat.reduceLT, eq_self, ↓getV_0, ↓getV_s, ↓getT_0, ↓getT_s, ↓ss_cons, ↓ss_nil, ↓s_par', ↓s_iff', ↓s_set', ↓s_ret', ↓s_retN', ↓s_ex', ↓s_brk', ↓s_cont', ↓s_pass', ↓s_setT', ↓es_cons, ↓es_nil, ↓rs_cons, ↓rs_nil, ↓e_var, ↓e_cst, ↓e_gc, ↓e_cmp, ↓e_chn, ↓e_not, ↓e_and, ↓e_or, ↓e_ite, ↓e_neg, ↓e_call, ↓e_bin, ↓e_tup', ↓e_lst', ↓m_tmp, ↓e_bf, ↓e_idx, ↓e_isi, ↓e_fld, ↓e_meth, ↓e_new, ↓e_bm, ↓e_dct, ↓e_lamc, ↓s_raise0, ↓s_try', ↓c_lt, ↓c_le, ↓c_gt, ↓c_ge, ↓c_eq, ↓c_ne, ↓c_isb, ↓c_isnb, ↓c_is, ↓c_isn, ↓c_eqb, ↓c_neb, ↓c_eqs, ↓c_nes, ↓nn_int, ↓nn_bl, ↓nn_str, ↓nn_tup, ↓nn_ref, ↓nn_non, ↓ex_bl, ↓ex_int, ↓b_add, ↓b_sub, ↓b_mul, ↓b_mod, ↓b_fdiv, ↓f_abs, ↓f_int, ↓f_lenT, ↓f_lenS, ↓f_tupT, ↓f_tupP, ↓f_min2, ↓f_min4, ↓f_max2, ↓i_tup, ↓m_int, ↓m_bl, ↓m_non, ↓m_str, ↓m_tup, ↓m_ref, ↓m_rp, ↓cs_nil, ↓cs_one, ↓a_nm, ↓a_tup, ↓as_nil, ↓as_cons, ↓up_up, ↓is_int_int, ↓is_int_bool, ↓is_int_tuple, ↓is_int_list, ↓is_int_str, ↓is_int_tuple_list, ↓is_int_dict, ↓is_int_int_str, ↓is_int_list_tuple, ↓is_int_own, ↓is_bool_int, ↓is_bool_bool, ↓is_bool_tuple, ↓is_bool_list, ↓is_bool_str, ↓is_bool_tuple_list, ↓is_bool_dict, ↓is_bool_int_str, ↓is_bool_list_tuple, ↓is_bool_own, ↓is_str_int, ↓is_str_bool, ↓is_str_tuple, ↓is_str_list, ↓is_str_str, ↓is_str_tuple_list, ↓is_str_dict, ↓is_str_int_str, ↓is_str_list_tuple, ↓is_str_own, ↓is_tuple_int, ↓is_tuple_bool, ↓is_tuple_tuple, ↓is_tuple_list, ↓is_tuple_str, ↓is_tuple_tuple_list, ↓is_tuple_dict, ↓is_tuple_int_str, ↓is_tuple_list_tuple, ↓is_tuple_own, ↓is_NoneType_int, ↓is_NoneType_bool, ↓is_NoneType_tuple, ↓is_NoneType_list, ↓is_NoneType_str, ↓is_NoneType_tuple_list, ↓is_NoneType_dict, ↓is_NoneType_int_str, ↓is_NoneType_list_tuple, ↓is_NoneType_own, ↓e_comp, ↓b_pow]
      refine ⟨_, rfl, any_c (FT := FT) (k := k) (more := [(0, 0), (1000, 1000), (0, 1000)]) TkP (fun x xs z => by cases z) (by decide) (by decide) G2 (by omega) (by rw [r.tl]; omega) r.tk (fun _ => rfl) (fun q μ' Q' hq hh => ?_) fun t2 ν2 t3 t4 G3 A3 => ?_⟩
      · decreasing_trivial_pre_omega
        exact hh
      have A3 : Bey h μ' ν2 := Bey.trans A2 A3
      refine ⟨bt_lst (A3 f _ nf q3) rfl, ?_⟩
      refine any_W G3 (by omega) (A3 w _ nw q4) nw fun ow ν4 how G4 A4 => ?_
      have A4 : Bey h μ' ν4 := Bey.trans A3 A4
      decreasing_trivial_pre_omega
      refine ⟨cp6, ?_⟩
      have r2 := r.w
      refine any_newI G4 (by omega) (fun n => 1 ≤ n ∧ n ≤ 1000000) (by simp) (by simp) (fun v hv => in1 r2 (in1 (by decide) (in1 (by decide) in0)) hv) fun wt ν5 hwt G5 A5 => ?_
      have A5 : Bey h μ' ν5 := Bey.trans A4 A5
      decreasing_trivial_pre_omega
      refine ap_lst (A5 f _ nf q3) (by simp; omega) ?_
      rw [hD]
      refine hQ _ _ ⟨⟨_, _, _, _, _, _, _, _, _, _, _, rfl⟩, ls ++ [⟨nm, ow, l.day, wt, t2⟩], by simp [q1], ?_, ?_, ?_, ?_, ?_, ?_⟩
      · intro y hy
        rcases List.mem_append.mp hy with hy | hy
        · exact q2 y hy
        · rw [List.mem_singleton] at hy; subst hy
          exact ⟨hnm, how, r.day, hwt, by rw [← r.tl, ← t3], t4⟩
      · rw [up_same, List.map_append]; rfl
      · rw [up_ne nwf]; exact A5 w _ nw q4
      · rw [up_ne ngf]; exact A5 g _ ng q5
      · rw [List.length_append]
        exact (G5.mono (by simp; omega)).put nf nfa
      · exact (Bey.trans A1 A5).put mf0
    cases decide (c1 = 0)
    · decreasing_trivial_pre_omega
      exact fin _ _ rfl r.name
    · decreasing_trivial_pre_omega
      obtain ⟨nm, hnm⟩ : ∃ nm, wordsL[pre.length]? = some nm := ⟨wordsL[pre.length]'(by show _ < 6; omega), List.getElem?_eq_getElem _⟩
      rw [i_dyn (v := .str nm) (A2 w _ nw q4) (by rw [Int.toNat_natCast, List.getElem?_map, hnm]; rfl) (by omega)]
      decreasing_trivial_pre_omega
      exact fin _ _ rfl (words_n _ (List.mem_of_getElem? hnm))
  · rintro ρ μ2 ⟨⟨x2, x3, x4, x8, x9, x10, x11, x12, x13, x14, x15, rfl⟩, ls, q1, q2, q3, q4, q5, H2, B2⟩
    show wpSs _ (.loop _ _ _ en_ol :: tl_en3) _ _ _
    decreasing_with simp only [↓s_loop']
    refine ⟨_, rfl, walk_m e.odrs rfl (I := fun pre ρ μ' => (∃ x2 x3 x4 x8 x9 x10 x11 x12 x13 x14 x15, ρ = [some (.ref h), some (specE e), x2, x3, x4, some (.ref w), some (.ref f), some (.ref g), x8, x9, x10, x11, x12, x13, x14, x15]) ∧
      ∃ os : List Odr, os.map (·.name) = pre.map (·.name) ∧ (∀ l ∈ os, RtOdr e.ms.length e.rooms.length l) ∧ μ' g = some (.lst (os.map odrP)) ∧ μ' w = some (.lst (wordsL.map .str)) ∧ μ' f = some (.lst (ls.map lotP)) ∧ HandOk μ' h a (C + 50 + 10 * pre.length) ∧ Bey h μ μ') ?_ ?_ ?_ ?_⟩
    · exact ⟨⟨_, _, _, _, _, _, _, _, _, _, _, rfl⟩, [], rfl, (by intro w hw; cases hw), q5, q4, q3, H2.mono (by simp; omega), B2⟩
    · intro _ _ _ _; rfl
    · rintro pre o post ρ μ' Q eq ⟨⟨x2, x3, x4, x8, x9, x10, x11, x12, x13, x14, x15, rfl⟩, os, r1, r2, r3, r4, r5, G1, A1⟩ hQ
      have hp : pre.length < 8 := by
        have := congrArg List.length eq
        simp at this
        omega
      have hos : os.length = pre.length := by have := congrArg List.length r1; simpa using this
      have r := R.odrs o (by rw [eq]; simp)
      unfold en_ol tl_en2 fi__law_ends
      simp only [List.drop_succ_cons, List.drop_zero, bodyL, startP, List.map_cons, List.map_nil, List.length_cons, List.length_nil, List.replicate_succ, List.replicate_zero, List.append_nil, List.cons_append, List.nil_append, Nat.reduceAdd, Nat.reduceSub, Nat.reduceLeDiff, List.zip_cons_cons, List.zip_nil_right, List.foldl_cons, List.foldl_nil, List.set_cons_zero, List.set_cons_succ, true_and, and_true, if_true, if_false, Bool.false_eq_true, Bool.not_true, Bool.not_false, Bool.true_eq_false, wipeP, nc, decide_true, decide_false, Int.reduceEq, Int.reduceLE, Int.reduceLT, Int.reduceNeg, Int.reduceSub, Int.reduceAdd, Int.reduceMul, Nat.reduceLT, eq_self, ↓getV_0, ↓getV_s, ↓getT_0, ↓getT_s, ↓ss_cons, ↓ss_nil, ↓s_par', ↓s_iff', ↓s_set', ↓s_ret', ↓s_retN', ↓s_ex', ↓s_brk', ↓s_cont', ↓s_pass', ↓s_setT', ↓es_cons, ↓es_nil, ↓rs_cons, ↓rs_nil, ↓e_var, ↓e_cst, ↓e_gc, ↓e_cmp, ↓e_chn, ↓e_not, ↓e_and, ↓e_or, ↓e_ite, ↓e_neg, ↓e_call, ↓e_bin, ↓e_tup', ↓e_lst', ↓m_tmp, ↓e_bf, ↓e_idx, ↓e_isi, ↓e_fld, ↓e_meth, ↓e_new, ↓e_bm, ↓e_dct, ↓e_lamc, ↓s_raise0, ↓s_try', ↓c_lt, ↓c_le, ↓c_gt, ↓c_ge, ↓c_eq, ↓c_ne, ↓c_isb, ↓c_isnb, ↓c_is, ↓c_isn, ↓c_eqb, ↓c_neb, ↓c_eqs, ↓c_nes, ↓nn_int, ↓nn_bl, ↓nn_str, ↓nn_tup, ↓nn_ref, ↓nn_non, ↓ex_bl, ↓ex_int, ↓b_add, ↓b_sub, ↓b_mul, ↓b_mod, ↓b_fdiv, ↓f_abs, ↓f_int, ↓f_lenT, ↓f_lenS, ↓f_tupT, ↓f_tupP, ↓f_min2, ↓f_min4, ↓f_max2, ↓i_tup, ↓m_int, ↓m_bl, ↓m_non, ↓m_str, ↓m_tup, ↓m_ref, ↓m_rp, ↓cs_nil, ↓cs_one, ↓a_nm, ↓a_tup, ↓as_nil, ↓as_cons, ↓up_up, ↓is_int_int, ↓is_int_bool, ↓is_int_tuple, ↓is_int_list, ↓is_int_str, ↓is_int_tuple_list, ↓is_int_dict, ↓is_int_int_str, ↓is_int_list_tuple, ↓is_int_own, ↓is_bool_int, ↓is_bool_bool, ↓is_bool_tuple, ↓is_bool_list, ↓is_bool_str, ↓is_bool_tuple_list, ↓is_bool_dict, ↓is_bool_int_str, ↓is_bool_list_tuple, ↓is_bool_own, ↓is_str_int, ↓is_str_bool, ↓is_str_tuple, ↓is_str_list, ↓is_str_str, ↓is_str_tuple_list, ↓is_str_dict, ↓is_str_int_str, ↓is_str_list_tuple, ↓is_str_own, ↓is_tuple_int, ↓is_tuple_bool, ↓is_tuple_tuple, ↓is_tuple_list, ↓is_tuple_str, ↓is_tuple_tuple_list, ↓is_tuple_dict, ↓is_tuple_int_str, ↓is_tuple_list_tuple, ↓is_tuple_own, ↓is_NoneType_int, ↓is_NoneType_bool, ↓is_NoneType_tuple, ↓is_NoneType_list, ↓is_NoneType_str, ↓is_NoneType_tuple_list, ↓is_NoneType_dict, ↓is_NoneType_int_str, ↓is_NoneType_list_tuple, ↓is_NoneType_own, ↓e_comp, ↓b_pow]
      refine ⟨_, rfl, any_c (FT := FT) (k := k) (g := limP) (more := [(some 0, some 1000), (none, some 0), (some 1000, none)]) RtLim (fun x xs z => by cases z) ?_ (by decide) G1 (by omega) (by rw [r.tl]; omega) r.lims (fun _ => rfl) (fun q μ' Q' hq hh => ?_) fun t2 ν2 t3 t4 G3 A3 => ?_⟩
      · intro x hx
        simp only [List.mem_cons, List.not_mem_nil, or_false] at hx
        rcases hx with rfl | rfl | rfl
        · exact ⟨fun i z => (by cases z; decide), fun i z => (by cases z; decide), fun i j z y => (by cases z; cases y; decide)⟩
        · exact ⟨fun i z => (by cases z), fun i z => (by cases z; decide), fun i j z y => (by cases z)⟩
        · exact ⟨fun i z => (by cases z; decide), fun i z => (by cases z), fun i j z y => (by cases y)⟩
      · decreasing_trivial_pre_omega
        exact hh
      refine ⟨cp6, cp6, ?_⟩
      have r6 := r.price
      refine any_newI G3 (by omega) (fun n => -1000000 ≤ n ∧ n ≤ 1000000) (by simp) (by simp) (fun v hv => in1 r6 (in1 (by decide) (in1 (by decide) (in1 (by decide) (in1 (by decide) in0)))) hv) fun pr ν5 hpr G5 A5 => ?_
      have A5 : Bey h μ' ν5 := Bey.trans A3 A5
      decreasing_with simp only [↓e_slcN, ↓sl_tup, ↓b_pow]
      refine ⟨bt_lst (A5 g _ ng r3) rfl, cp6, ?_⟩
      refine any_newI G5 (by omega) (fun n => 0 ≤ n ∧ n ≤ 1000000) (by simp) (by simp) (fun v hv => in1 (by decide) (in1 (by decide) in0) hv) fun mo ν6 hmo G6 A6 => ?_
      have A6 : Bey h μ' ν6 := Bey.trans A5 A6
      decreasing_trivial_pre_omega
      rw [cut3o]
      refine b_addT.mpr ⟨Nat.le_trans (m := 30) (by simp only [List.length_cons, List.length_nil]; omega) (by decide), ?_⟩
      decreasing_trivial_pre_omega
      refine ap_lst (A6 g _ ng r3) (by simp; omega) ?_
      refine hQ _ _ ⟨⟨_, _, _, _, _, _, _, _, _, _, _, rfl⟩, os ++ [⟨o.name, o.owner, o.day, 0, mo, pr, t2⟩], by simp [r1], ?_, ?_, ?_, ?_, ?_, ?_⟩
      · intro y hy
        rcases List.mem_append.mp hy with hy | hy
        · exact r2 y hy
        · rw [List.mem_singleton] at hy; subst hy
          exact ⟨r.name, r.owner, r.day, ⟨by show (0 : Int) ≤ 0; omega, hmo.1⟩, hmo.2, hpr, by rw [← r.tl, ← t3], t4⟩
      · rw [up_same, List.map_append]; rfl
      · rw [up_ne nwg]; exact A6 w _ nw r4
      · rw [up_ne (Ne.symm ngf)]; exact A6 f _ nf r5
      · rw [List.length_append]
        exact (G6.mono (by simp; omega)).put ng nga
      · exact (Bey.trans A1 A6).put hg
    · rintro ρ μ3 ⟨⟨x2, x3, x4, x8, x9, x10, x11, x12, x13, x14, x15, rfl⟩, os, r1, r2, r3, r4, r5, H3, B3⟩
      unfold tl_en3 fi__law_ends
      simp only [List.drop_succ_cons, List.drop_zero, bodyL, startP, List.map_cons, List.map_nil, List.length_cons, List.length_nil, List.replicate_succ, List.replicate_zero, List.append_nil, List.cons_append, List.nil_append, Nat.reduceAdd, Nat.reduceSub, Nat.reduceLeDiff, List.zip_cons_cons, List.zip_nil_right, List.foldl_cons, List.foldl_nil, List.set_cons_zero, List.set_cons_succ, true_and, and_true, if_true, if_false, Bool.false_eq_true, Bool.not_true, Bool.not_false, Bool.true_eq_false, wipeP, nc, decide_true, decide_false, Int.reduceEq, Int.reduceLE, Int.reduceLT, Int.reduceNeg, Int.reduceSub, Int.reduceAdd, Int.reduceMul, Nat.reduceLT, eq_self, ↓getV_0, ↓getV_s, ↓getT_0, ↓getT_s, ↓ss_cons, ↓ss_nil, ↓s_par', ↓s_iff', ↓s_set', ↓s_ret', ↓s_retN', ↓s_ex', ↓s_brk', ↓s_cont', ↓s_pass', ↓s_setT', ↓es_cons, ↓es_nil, ↓rs_cons, ↓rs_nil, ↓e_var, ↓e_cst, ↓e_gc, ↓e_cmp, ↓e_chn, ↓e_not, ↓e_and, ↓e_or, ↓e_ite, ↓e_neg, ↓e_call, ↓e_bin, ↓e_tup', ↓e_lst', ↓m_tmp, ↓e_bf, ↓e_idx, ↓e_isi, ↓e_fld, ↓e_meth, ↓e_new, ↓e_bm, ↓e_dct, ↓e_lamc, ↓s_raise0, ↓s_try', ↓c_lt, ↓c_le, ↓c_gt, ↓c_ge, ↓c_eq, ↓c_ne, ↓c_isb, ↓c_isnb, ↓c_is, ↓c_isn, ↓c_eqb, ↓c_neb, ↓c_eqs, ↓c_nes, ↓nn_int, ↓nn_bl, ↓nn_str, ↓nn_tup, ↓nn_ref, ↓nn_non, ↓ex_bl, ↓ex_int, ↓b_add, ↓b_sub, ↓b_mul, ↓b_mod, ↓b_fdiv, ↓f_abs, ↓f_int, ↓f_lenT, ↓f_lenS, ↓f_tupT, ↓f_tupP, ↓f_min2, ↓f_min4, ↓f_max2, ↓i_tup, ↓m_int, ↓m_bl, ↓m_non, ↓m_str, ↓m_tup, ↓m_ref, ↓m_rp, ↓cs_nil, ↓cs_one, ↓a_nm, ↓a_tup, ↓as_nil, ↓as_cons, ↓up_up, ↓is_int_int, ↓is_int_bool, ↓is_int_tuple, ↓is_int_list, ↓is_int_str, ↓is_int_tuple_list, ↓is_int_dict, ↓is_int_int_str, ↓is_int_list_tuple, ↓is_int_own, ↓is_bool_int, ↓is_bool_bool, ↓is_bool_tuple, ↓is_bool_list, ↓is_bool_str, ↓is_bool_tuple_list, ↓is_bool_dict, ↓is_bool_int_str, ↓is_bool_list_tuple, ↓is_bool_own, ↓is_str_int, ↓is_str_bool, ↓is_str_tuple, ↓is_str_list, ↓is_str_str, ↓is_str_tuple_list, ↓is_str_dict, ↓is_str_int_str, ↓is_str_list_tuple, ↓is_str_own, ↓is_tuple_int, ↓is_tuple_bool, ↓is_tuple_tuple, ↓is_tuple_list, ↓is_tuple_str, ↓is_tuple_tuple_list, ↓is_tuple_dict, ↓is_tuple_int_str, ↓is_tuple_list_tuple, ↓is_tuple_own, ↓is_NoneType_int, ↓is_NoneType_bool, ↓is_NoneType_tuple, ↓is_NoneType_list, ↓is_NoneType_str, ↓is_NoneType_tuple_list, ↓is_NoneType_dict, ↓is_NoneType_int_str, ↓is_NoneType_list_tuple, ↓is_NoneType_own, ↓e_comp, ↓b_pow]
      refine any_W H3 (by omega) r4 nw fun own ν1 hown G1 A1 => ?_
      decreasing_with simp only [↓e_comp, ↓b_pow]
      refine ⟨cp6, ?_⟩
      refine any_newI G1 (by omega) (fun n => 0 ≤ n ∧ n ≤ 1000000) (by simp) (by simp) (fun v hv => in1 (by decide) (in1 (by decide) in0) hv) fun cost ν2 hcost G2 A2 => ?_
      have A2 : Bey h μ3 ν2 := Bey.trans A1 A2
      have f2 := A2 f _ nf r5
      have g2 := A2 g _ ng r3
      have B2 := Bey.trans B3 A2
      decreasing_with simp only [↓e_comp, ↓b_pow]
      have ei : itemsOf ν2 .seq [.ref f] = some (ls.map lotP) := by
        show itS _ (.ref f) = _
        simp only [itS, seqOf, f2]
      refine ⟨_, ei, comp_m ls (fun l => .str l.name) rfl ei (fun l hl Q q => ?_) ?_⟩
      · decreasing_trivial_pre_omega
        exact q
      intro c hc
      have sc := Sub.new (o := .lst (ls.map fun l => .str l.name)) hc
      have fc : up ν2 c (.lst (ls.map fun l => .str l.name)) c = some (.lst ((ls.map (·.name)).map .str)) := by rw [up_same, List.map_map]; rfl
      have f3 := sc _ _ f2
      have g3 := sc _ _ g2
      have G3 := G2.sub sc
      have B3 := Bey.trans B2 (Bey.of sc)
      generalize up ν2 c _ = ν3 at fc f3 g3 G3 B3 ⊢
      have ei3 : itemsOf ν3 .seq [.ref c] = some ((ls.map (·.name)).map .str) := by
        show itS _ (.ref c) = _
        simp only [itS, seqOf, fc]
      have fin : ∀ (ls' : List Lot) (ν : PM) (c' : Addr), (∀ l ∈ ls', RtLot e.ms.length e.rooms.length l) → ls'.length = ls.length → (ls'.map (·.name)).Nodup → ν c' = some (.lst (ls'.map lotP)) → ν g = some (.lst (os.map odrP)) → HandOk ν h a (C + 50 + 10 * e.odrs.length + 1 + 1) → Bey h μ ν → 
          bfW Bf.tuple [PV.ref c'] ν fun v μ1 => mat v μ1 fun v' μ2 => bfW Bf.tuple [PV.ref g] μ2 fun v μ1 => mat v μ1 fun v'_1 μ2 => CPow 10 6 ∧ ∀ (a : Addr), μ2 a = none →
            (CS2 FT (k + 5 + 1)).fn F._law_any [PV.ref h, PV.ref a] (up μ2 a (PO.lst [PV.int 0, PV.int (10 ^ Int.toNat 6)])) (fun v μ1 => mat v μ1 fun v'_2 μ2 => ∃ μ'', Sub μ'' μ2 ∧ P (PV.tup [PV.tup (List.map PV.str e.ms), v', v'_1, PV.tup [PV.str own, PV.int cost, PV.tup (List.map PV.int e.rooms)], v'_2]) μ'') fun x μ' => ∃ μ'', Sub μ'' μ' ∧ X x μ'' := fun ls' ν c' h1 h2 h3 h4 h5 h6 h7 => by
        decreasing_with simp only [↓f_tupL h4, ↓f_tupL h5]
        refine ⟨cp6, ?_⟩
        refine any_newI h6 (by omega) (fun n => 0 ≤ n ∧ n ≤ 1000000) (by simp) (by simp) (fun v hv => in1 (by decide) (in1 (by decide) in0) hv) fun st ν9 hst G9 A9 => ?_
        decreasing_trivial_pre_omega
        refine rt_here (p { e with lots := ls', odrs := os, own := own, cost := cost, st := st } ν9 ⟨R.ms, R.mn, R.md, hown, hcost, R.rl, R.rooms, by show ls'.length ≤ 12; omega, h1, h3, by show os.length ≤ 8; have := congrArg List.length r1; simp at this; omega, r2, by show (os.map (·.name)).Nodup; rw [r1]; exact R.on, hst⟩ (by show ls'.length ≤ 5; omega) (G9.mono (by omega)) (Bey.trans h7 A9))
      refine ⟨_, ei3, comp_p (ls.map (·.name)) (fun w => decide ((1 : Int) < (((ls.map (·.name)).count w : Nat) : Int))) .str rfl ei3 (fun w hw Q q => ?_) ?_⟩
      · refine ⟨bt_lst fc rfl, ?_⟩
        decreasing_trivial_pre_omega
        refine ⟨_, lst_ref fc, rfl, flat_s _, ?_⟩
        rw [cnt_s]
        decreasing_trivial_pre_omega
        cases z : decide ((1 : Int) < (((ls.map (·.name)).count w : Nat) : Int))
        · rw [z] at q
          simpa using q
        · rw [z] at q
          simpa using q
      refine .inl ⟨_, rfl, ?_⟩
      decreasing_trivial_pre_omega
      by_cases z : (ls.map (·.name)).filter (fun w => decide ((1 : Int) < (((ls.map (·.name)).count w : Nat) : Int))) = []
      · rw [z, decide_eq_false (by simp)]
        decreasing_trivial_pre_omega
        exact fin ls ν3 f q2 rfl (nd_of z) f3 g3 G3 B3
      · rw [decide_eq_true (by rw [List.length_map]; have := List.length_pos_iff.mpr z; omega)]
        decreasing_trivial_pre_omega
        have ee : itemsOf ν3 .enum [.ref f] = some (((List.range ls.length).zip ls).map fun p => PV.tup [.int (p.1 : Int), lotP p.2]) := by
          show (itS ν3 (.ref f)).map (fun xs => (List.range xs.length).zipWith (fun (i : Nat) v => PV.tup [.int i, v]) xs) = _
          simp only [itS, seqOf, f3]
          rw [Option.map_some, List.length_map, List.zipWith_map_right, ← List.map_uncurry_zip_eq_zipWith]
          rfl
        refine ⟨_, ee, comp_m ((List.range ls.length).zip ls) (fun p => lotP (reN p)) rfl ee (fun p hp Q q => ?_) ?_⟩
        · obtain ⟨i, x⟩ := p
          have hi := (List.of_mem_zip hp).1
          rw [List.mem_range] at hi
          decreasing_trivial_pre_omega
          have hc : ("abcdefghijkl" : Str).cps.toList[i]? = some (97 + i) := by
            have : ∀ i : Fin 12, ("abcdefghijkl" : Str).cps.toList[i.val]? = some (97 + i.val) := by decide +kernel
            exact this ⟨i, by omega⟩
          rw [i_strN hc]
          decreasing_with simp only [↓e_slcS, ↓sl_tup]
          refine b_addT.mpr ⟨Nat.le_trans (m := 30) ?_ (by decide), ?_⟩
          · show 1 + 4 ≤ 30
            decide
          · decreasing_trivial_pre_omega
            exact q
        · intro c2 hc2
          have s2 := Sub.new (o := .lst (((List.range ls.length).zip ls).map fun p => lotP (reN p))) hc2
          refine fin (reL ls) _ c2 (reL_ok (by omega) q2) reL_len reL_nd ?_ (s2 _ _ g3) (G3.sub s2) (Bey.trans B3 (Bey.of s2))
          rw [up_same]
          unfold reL
          rw [List.map_map]
          rfl
end

section
variable {FT : Nat → Option FI} [B : Base FT] {k n : Nat} {μ : PM} {P : Post} {X : XPost} {a b : Addr} {e : Elv}
theorem text_c (R : Right e) : ∀ c ∈ (textE e).cps.toList, c = 10 ∨ c = 32 ∨ Sgn c := fun c hc => by
  unfold textE at hc
  rw [TL.join_eq] at hc
  have ej := TL.tl_join "" ((rowsV e).map lineN)
  have hc : c ∈ TL.tl (Str.join "" ((rowsV e).map lineN)) := hc
  rw [ej] at hc
  rcases joinL_mem hc with h1 | ⟨p, hp, h1⟩
  · exact absurd h1 (by show ¬ c ∈ []; exact List.not_mem_nil)
  · obtain ⟨x, hx, rfl⟩ := List.mem_map.mp hp
    obtain ⟨r, hr, rfl⟩ := List.mem_map.mp hx
    unfold lineN at h1
    rw [TL.tl_append] at h1
    rcases List.mem_append.mp h1 with h1 | h1
    · exact .inr (line_c (rows_c R r hr) c h1)
    · have : c ∈ [10] := h1
      exact .inl (by simpa using this)
theorem pl_text (R : Right e) : Pl 3 (.str (textE e)) := by
  show PyData.strOk _ = true
  unfold PyData.strOk
  rw [Array.all_eq_true_iff_forall_mem]
  intro c hc
  have := text_c R c (by simpa using hc)
  rcases this with h | h | h | h | h <;> simp <;> omega
theorem e_oeqF {C : Calls} {ρ : PE_} {c : Str} {f : Nat} {a b : E} : wpE C (.oeq false c f a b) ρ μ P X = wpE C a ρ μ (fun x μ1 => wpE C b ρ μ1 (fun y μ2 => ∃ p q fs gs, x = .ref p ∧ y = .ref q ∧ μ2 p = some (.ins c fs) ∧ μ2 q = some (.ins c gs) ∧ C.fn f [x, y] μ2 P (fun _ _ => False)) X) X := by
  simp only [wpE, true_and]
theorem e_oeqT {C : Calls} {ρ : PE_} {c : Str} {f : Nat} {a b : E} : wpE C (.oeq true c f a b) ρ μ P X = wpE C a ρ μ (fun x μ1 => wpE C b ρ μ1 (fun y μ2 => ∃ p q fs gs, x = .ref p ∧ y = .ref q ∧ μ2 p = some (.ins c fs) ∧ μ2 q = some (.ins c gs) ∧ C.mk f [x, y] μ2 (fun v μ' => ∃ k, v = .bl k ∧ P (.bl (!k)) μ') (fun _ _ => False)) X) X := by
  simp only [wpE]
theorem sl_is_read (R : Right e) (p : ∀ μ', Sub μ μ' → P (.bl true) μ') : (CS2 FT (k + 16)).fn F._law_is_read [specE e] μ P X := by
  refine fn_run B._law_is_read rfl ?_
  unfold fi__law_is_read
  decreasing_trivial_pre_omega
  refine sl_text R fun μ1 s1 => ?_
  decreasing_trivial_pre_omega
  refine se_read (k := k + 5) R fun μ2 b2 s2 n2 => ?_
  have i2 : IsE (up μ2 b2 (.ins "Elevator" (fldsP e))) b2 e := up_same
  have t2 := Sub.trans s1 (Sub.trans s2 (Sub.new (o := .ins "Elevator" (fldsP e)) n2))
  generalize up μ2 b2 (.ins "Elevator" (fldsP e)) = μ3 at i2 t2 ⊢
  decreasing_trivial_pre_omega
  refine se_fields i2 ?_
  decreasing_trivial_pre_omega
  refine sr_is 6 _ _ _ (pl_specE R) ?_
  decreasing_trivial_pre_omega
  refine se_text i2 R fun μ4 s4 => ?_
  decreasing_trivial_pre_omega
  refine sr_is 3 _ _ _ (pl_text R) ?_
  decreasing_trivial_pre_omega
  refine se_made R fun b5 n5 => ?_
  have i4 := i2.sub s4
  have s5 := Sub.new (o := .ins "Elevator" (fldsP e)) n5
  have i5 : IsE (up μ4 b5 (.ins "Elevator" (fldsP e))) b5 e := up_same
  have i6 := i4.sub s5
  have t5 := Sub.trans t2 (Sub.trans s4 s5)
  generalize up μ4 b5 (.ins "Elevator" (fldsP e)) = μ5 at i5 i6 t5 ⊢
  decreasing_trivial_pre_omega
  refine se_text i5 R fun μ6 s6 => ?_
  decreasing_trivial_pre_omega
  refine sr_is 3 _ _ _ (pl_text R) ?_
  decreasing_trivial_pre_omega
  have i7 := i5.sub s6
  have i8 := i6.sub s6
  have t6 := Sub.trans t5 s6
  decreasing_with simp only [↓e_oeqF, ↓e_oeqT]
  refine ⟨b2, b5, _, _, rfl, rfl, i8, i7, se___eq__ i8 i7 R ?_⟩
  decreasing_with simp only [↓e_oeqF, ↓e_oeqT]
  refine ⟨b2, b5, _, _, rfl, rfl, i8, i7, ?_⟩
  show (CS2 FT (k + 14)).fn _ _ _ _ _
  refine se___eq__ i8 i7 R ⟨true, rfl, ?_⟩
  decreasing_trivial_pre_omega
  intro c hc d hd
  have ncd : c ≠ d := fun z => by subst z; rw [up_same] at hd; cases hd
  have sc := Sub.new (o := .lst [PV.bl true, PV.bl false]) hc
  have sd := Sub.new (o := .lst [PV.bl true, PV.bl false]) hd
  refine sr_isL (n := 1) (xs := [PV.bl true, PV.bl false]) (sd _ _ up_same) up_same (pl_cons pl_bl (pl_cons pl_bl pl_nil)) ?_
  have i9 := (i7.sub sc).sub sd
  have t9 := Sub.trans (Sub.trans t6 sc) sd
  generalize up (up μ6 c (.lst [PV.bl true, PV.bl false])) d (.lst [PV.bl true, PV.bl false]) = μ7 at i9 t9 ⊢
  decreasing_trivial_pre_omega
  refine se_text i9 R fun μ8 s8 => ?_
  decreasing_trivial_pre_omega
  refine se_read (k := k + 5) R fun μa ba sa na => ?_
  have ia : IsE (up μa ba (.ins "Elevator" (fldsP e))) ba e := up_same
  have ta := Sub.trans t9 (Sub.trans s8 (Sub.trans sa (Sub.new (o := .ins "Elevator" (fldsP e)) na)))
  generalize up μa ba (.ins "Elevator" (fldsP e)) = μb at ia ta ⊢
  decreasing_trivial_pre_omega
  refine se_text ia R fun μc sc' => ?_
  decreasing_trivial_pre_omega
  refine sr_is 3 _ _ _ (pl_text R) ?_
  decreasing_trivial_pre_omega
  exact rt_here (p _ (Sub.trans ta sc'))
end

theorem cut_init {xs : List PV} {y : PV} : cutP (xs ++ [y]) none (some (-1)) = xs := by
  have h1 : HT.sIx (xs ++ [y]).length (xs ++ [y]).length (some (-1)) = xs.length := by
    show (if (-1 : Int) < 0 then ((-1 : Int) + ((xs ++ [y]).length : Int)).toNat else min (-1 : Int).toNat (xs ++ [y]).length) = _
    rw [if_pos (by decide), List.length_append, List.length_singleton]
    omega
  unfold cutP
  rw [h1, HT.sIx_none, Nat.sub_zero, List.drop_zero]
  simp
theorem sub_right {e : Elv} (R : Right e) {ls : List Lot} {os : List Odr} (hl : ls.Sublist e.lots) (ho : os.Sublist e.odrs) : Right { e with lots := ls, odrs := os } :=
  ⟨R.ms, R.mn, R.md, R.own, R.cost, R.rl, R.rooms, Nat.le_trans hl.length_le R.ll, fun l h => R.lots l (hl.subset h), (hl.map _).nodup R.ln, Nat.le_trans ho.length_le R.ol, fun l h => R.odrs l (ho.subset h), (ho.map _).nodup R.on, R.st⟩
section
variable {FT : Nat → Option FI} [B : Base FT] {k n : Nat} {μ : PM} {P : Post} {X : XPost} {a b : Addr} {e : Elv}
abbrev withO (e : Elv) (os : List Odr) : Elv := { e with lots := [], odrs := os }
abbrev withL (e : Elv) (ls : List Lot) : Elv := { e with lots := ls }
theorem bm_text (R : Right e) (p : P (.tmp (linesP e ++ [.str ""])) μ) : bmW .split (.str (textE e)) [.str "\n"] μ P := by
  obtain ⟨t1, t2, t3⟩ := text_len R
  have hs := text_split R
  have hz : 10000 ≤ sizeLine := by decide
  have es : (Txt.split (textE e) "\n").map PV.str = linesP e ++ [.str ""] := by
    rw [hs, List.map_append]
    rfl
  refine ⟨by decide, by omega, ?_, fun y hy => ?_, ?_⟩
  · rw [hs, List.length_append, List.length_map]
    rw [List.length_map] at t2
    show _ + 1 ≤ _
    omega
  · rw [hs] at hy
    rcases List.mem_append.mp hy with hy | hy
    · obtain ⟨r, hr, rfl⟩ := List.mem_map.mp hy
      obtain ⟨o1, o2⟩ := rows_ok R r hr
      have := (line_len o1).1
      omega
    · rw [List.mem_singleton.mp hy]
      exact Nat.zero_le _
  rw [es]
  exact p
theorem cutI_take {xs : List PV} {i : Int} (n : Nat) (h : i = (n : Int)) : cutP xs none (some i) = xs.take n := by subst h; exact cut_take
theorem cutI_drop {xs : List PV} {i : Int} (n : Nat) (h : i = (n : Int)) : cutP xs (some i) none = xs.drop n := by subst h; exact cut_drop
/-- the lines of some of the lots -/
theorem lines_some {e : Elv} {pre post : List Lot} (h : e.lots = pre ++ post) : (linesP e).take (3 + pre.length) ++ (linesP e).drop (3 + e.lots.length) = linesP (withL e pre) := by
  have e1 : linesP e = pvS ((headV e).map lineS) ++ pvS ((e.lots.map lotV).map lineS) ++ pvS ((e.odrs.map odrV).map lineS) := by
    unfold linesP rowsV pvS
    rw [List.map_append, List.map_append, List.map_append, List.map_append]
  have e2 : linesP (withL e pre) = pvS ((headV e).map lineS) ++ pvS ((pre.map lotV).map lineS) ++ pvS ((e.odrs.map odrV).map lineS) := by
    unfold linesP rowsV pvS
    rw [List.map_append, List.map_append, List.map_append, List.map_append]
    rfl
  have hl : (pvS ((headV e).map lineS)).length = 3 := by unfold pvS headV; rfl
  have hl2 : (pvS ((e.lots.map lotV).map lineS)).length = e.lots.length := by unfold pvS; simp
  rw [e1, e2]
  have hd : (pvS ((headV e).map lineS) ++ pvS ((e.lots.map lotV).map lineS) ++ pvS ((e.odrs.map odrV).map lineS)).drop (3 + e.lots.length) = pvS ((e.odrs.map odrV).map lineS) := by
    rw [List.drop_append_of_le_length (by rw [List.length_append, hl, hl2]; omega), List.drop_of_length_le (by rw [List.length_append, hl, hl2]; omega), List.nil_append]
  have ht : (pvS ((headV e).map lineS) ++ pvS ((e.lots.map lotV).map lineS) ++ pvS ((e.odrs.map odrV).map lineS)).take (3 + pre.length) = pvS ((headV e).map lineS) ++ pvS ((pre.map lotV).map lineS) := by
    rw [h, List.map_append, List.map_append]
    unfold pvS at hl ⊢
    rw [List.map_append, List.append_assoc, List.append_assoc, List.take_append, hl, List.take_of_length_le (by rw [hl]; omega), show 3 + pre.length - 3 = pre.length by omega, List.take_append_of_le_length (by simp), List.take_of_length_le (by simp)]
  rw [hd, ht]
theorem sl_lines_right (R : Right e) (p : ∀ μ', Sub μ μ' → P (.bl true) μ') : (CS2 FT (k + 16)).fn F._law_lines_right [specE e] μ P X := by
  have ll := R.ll
  have ol := R.ol
  refine fn_run B._law_lines_right rfl ?_
  unfold fi__law_lines_right
  decreasing_with simp only [↓e_slcN]
  refine sl_text R fun μ1 s1 => ?_
  refine ⟨⟨_, rfl⟩, bm_text R ?_⟩
  refine ⟨_, rfl, ?_⟩
  rw [cut_init]
  decreasing_trivial_pre_omega
  intro c hc
  have sc := Sub.new (o := .lst (linesP e)) hc
  have fc : up μ1 c (.lst (linesP e)) c = some (.lst (linesP e)) := up_same
  have t2 := Sub.trans s1 sc
  generalize up μ1 c (.lst (linesP e)) = μ2 at fc t2 ⊢
  decreasing_with simp only [↓e_slcS, ↓sl_tup]
  refine b_addT.mpr ⟨Nat.le_trans (m := 30) (by show 3 + 2 ≤ 30; decide) (by decide), ?_⟩
  decreasing_trivial_pre_omega
  refine se_made (e := withO e []) (sub_right R (List.nil_sublist _) (List.nil_sublist _)) fun b nb => ?_
  have ib : IsE (up μ2 b (.ins "Elevator" (fldsP (withO e [])))) b (withO e []) := up_same
  have sb := Sub.new (o := .ins "Elevator" (fldsP (withO e []))) nb
  have fc := sb _ _ fc
  have t3 := Sub.trans t2 sb
  generalize up μ2 b (.ins "Elevator" (fldsP (withO e []))) = μ3 at ib fc t3 ⊢
  decreasing_with simp only [↓s_loop']
  refine ⟨_, rfl, walk_e e.odrs rfl (I := fun pre ρ μ' => (∃ x3 x4 x5 x6 x7 b, ρ = [some (specE e), some (.ref c), some (.ref b), x3, x4, x5, x6, x7] ∧ IsE μ' b (withO e pre)) ∧ μ' c = some (.lst (linesP e)) ∧ Sub μ μ') ?_ ?_ ?_ ?_⟩
  · exact ⟨⟨_, _, _, _, _, _, rfl, ib⟩, fc, t3⟩
  · intro _ _ _ _; rfl
  · rintro pre o post ρ μ' Q eq ⟨⟨x3, x4, x5, x6, x7, b, rfl, ib⟩, fc, sm⟩ hQ
    decreasing_trivial_pre_omega
    have hs : (pre ++ [o]).Sublist e.odrs := by rw [eq]; exact List.Sublist.append (List.Sublist.refl _) (by simp)
    refine se_with_order (k := k + 3) ib (o := o) (sub_right R (List.nil_sublist _) hs) fun b2 n2 => ?_
    decreasing_trivial_pre_omega
    have s2 := Sub.new (o := .ins "Elevator" (fldsP { withO e pre with odrs := (withO e pre).odrs ++ [o] })) n2
    exact hQ _ _ ⟨⟨_, _, _, _, _, b2, rfl, up_same⟩, s2 _ _ fc, Sub.trans sm s2⟩
  rintro ρ μ4 ⟨⟨x3, x4, x5, x6, x7, b, rfl, ib⟩, fc, sm⟩
  decreasing_with simp only [↓s_loop']
  refine ⟨_, rfl, walk_e e.lots rfl (I := fun pre ρ μ' => (∃ x3 x4 x5 x6 x7 b, ρ = [some (specE e), some (.ref c), some (.ref b), x3, x4, x5, x6, x7] ∧ IsE μ' b (withL e pre)) ∧ μ' c = some (.lst (linesP e)) ∧ Sub μ μ') ?_ ?_ ?_ ?_⟩
  · exact ⟨⟨_, _, _, _, _, _, rfl, ib⟩, fc, sm⟩
  · intro _ _ _ _; rfl
  · rintro pre l post ρ μ' Q eq ⟨⟨x3, x4, x5, x6, x7, b, rfl, ib⟩, fc, sm⟩ hQ
    decreasing_with simp only [↓e_slcN, ↓e_slcS]
    have hs : (pre ++ [l]).Sublist e.lots := by rw [eq]; exact List.Sublist.append (List.Sublist.refl _) (by simp)
    have R2 : Right (withL e (pre ++ [l])) := sub_right (os := e.odrs) R hs (List.Sublist.refl _)
    refine se_with_lot (k := k + 3) ib (l := l) R2 fun b2 n2 => ?_
    have s2 := Sub.new (o := .ins "Elevator" (fldsP { withL e pre with lots := (withL e pre).lots ++ [l] })) n2
    have ib2 : IsE (up μ' b2 (.ins "Elevator" (fldsP { withL e pre with lots := (withL e pre).lots ++ [l] }))) b2 (withL e (pre ++ [l])) := up_same
    have fc := s2 _ _ fc
    have sm := Sub.trans sm s2
    generalize up μ' b2 (.ins "Elevator" (fldsP { withL e pre with lots := (withL e pre).lots ++ [l] })) = μ5 at ib2 fc sm ⊢
    decreasing_with simp only [↓e_slcN, ↓e_slcS, ↓sl_L fc]
    rw [cutI_take (3 + (pre ++ [l]).length) (by simp; omega), cutI_drop (3 + e.lots.length) (by simp)]
    have ln := (text_len R2).2.1
    have hle : (linesP (withL e (pre ++ [l]))).length ≤ 23 := by
      unfold linesP pvS
      rw [List.length_map, List.length_map]
      rwa [List.length_map] at ln
    have e0 := lines_some (e := e) (pre := pre ++ [l]) (post := post) (by rw [eq]; simp)
    refine b_addTT (by rw [← List.length_append, e0]; omega) ?_
    rw [e0]
    decreasing_trivial_pre_omega
    intro d hd
    have sd := Sub.new (o := .lst (linesP (withL e (pre ++ [l])))) hd
    have fd : up μ5 d (.lst (linesP (withL e (pre ++ [l])))) d = some (.lst (linesP (withL e (pre ++ [l])))) := up_same
    have ib2 := ib2.sub sd
    have fc := sd _ _ fc
    have sm := Sub.trans sm sd
    generalize up μ5 d (.lst (linesP (withL e (pre ++ [l])))) = μ6 at fd ib2 fc sm ⊢
    refine se_text ib2 R2 fun μ7 s7 => ?_
    have fd := s7 _ _ fd
    decreasing_with simp only [↓e_comp]
    have ei : itemsOf μ7 .seq [.ref d] = some (linesP (withL e (pre ++ [l]))) := by
      show itS _ (.ref d) = _
      simp only [itS, seqOf, fd]
    obtain ⟨t1, t2, t3⟩ := text_len R2
    have e0 : ("" : Str).length = 0 := by decide
    have en : ("\n" : Str).length = 1 := by decide
    refine ⟨⟨_, rfl⟩, _, ei, comp_m ((rowsV (withL e (pre ++ [l]))).map lineS) (fun x => .str (x ++ "\n")) (g := PV.str) rfl ei (fun x hx Q q => ?_) ?_⟩
    · obtain ⟨r, hr, rfl⟩ := List.mem_map.mp hx
      obtain ⟨o1, o2⟩ := rows_ok R2 r hr
      have := (line_len o1).1
      have hsz : 1000 ≤ sizeLine := by decide
      refine ⟨by rw [en]; omega, ?_⟩
      decreasing_trivial_pre_omega
      exact q
    have el : ((rowsV (withL e (pre ++ [l]))).map lineS).map (fun x => PV.str (x ++ "\n")) = ((rowsV (withL e (pre ++ [l]))).map lineN).map .str := by rw [List.map_map, List.map_map]; rfl
    rw [el]
    intro b9 hb9
    have s9 := Sub.new (o := .lst (((rowsV (withL e (pre ++ [l]))).map lineN).map .str)) hb9
    have hsz : 10000 ≤ sizeLine := by decide
    refine bj_join (ss := (rowsV (withL e (pre ++ [l]))).map lineN) (by simp only [seqOf, up_same]) (by rw [e0]; omega) (by show (textE (withL e (pre ++ [l]))).length ≤ _; omega) ?_
    show mat (.str (textE (withL e (pre ++ [l])))) _ _
    decreasing_trivial_pre_omega
    refine sr_is 3 _ _ _ (pl_text R2) ?_
    decreasing_trivial_pre_omega
    exact hQ _ _ ⟨⟨_, _, _, _, _, b2, rfl, (ib2.sub s7).sub s9⟩, s9 _ _ (s7 _ _ fc), Sub.trans sm (Sub.trans s7 s9)⟩
  · rintro ρ μ6 ⟨⟨x3, x4, x5, x6, x7, b, rfl, ib⟩, fc, sm⟩
    have ib : IsE μ6 b e := ib
    decreasing_trivial_pre_omega
    refine se_text ib R fun μ7 s7 => ?_
    decreasing_trivial_pre_omega
    refine sl_text R fun μ8 s8 => ?_
    decreasing_trivial_pre_omega
    refine sr_is 3 _ _ _ (pl_text R) ?_
    decreasing_trivial_pre_omega
    exact rt_here (p _ (Sub.trans sm (Sub.trans s7 s8)))
end

section
variable {FT : Nat → Option FI} [B : Base FT] {k n : Nat} {μ : PM} {P : Post} {X : XPost} {h a : Addr} {C : Nat} {e : Elv}
theorem slc_any {v : PV} {xs : List PV} {lo hi : Option Int} (hv : seqOf μ v = some xs) (p : ∀ w, (∀ μ', itS μ' w = some (cutP xs lo hi)) → P w μ) : slcW v lo hi μ P := by
  cases v with
  | str z => cases hv
  | tup ys => cases hv; exact p _ fun _ => rfl
  | _ => exact ⟨xs, hv, p _ fun _ => rfl⟩
theorem log_bits {z : Int} (h : Builtin.Int.intBits z ≤ 1048576) : z.natAbs.log2 < 2000000 := by
  unfold Builtin.Int.intBits at h
  by_cases e : z = 0
  · subst e; decide
  · have : (z == 0) = false := by simpa using e
    rw [this] at h
    simp at h
    omega
theorem sp__law_hand {v : PV} {ns : List Int} (hv : seqOf μ v = some (ns.map .int)) (hb : ∀ z ∈ ns, Builtin.Int.intBits z ≤ 1048576) (p : ∀ h a μ', HandOk μ' h a 0 → P (.ref h) μ') : (CS2 FT (k + 2)).fn F._law_hand [v] μ P X := by
  refine fn_run B._law_hand rfl ?_
  unfold fi__law_hand
  decreasing_with simp only [↓e_comp, ↓e_slcN]
  refine slc_any hv fun w hw => ?_
  rw [show (some (63 : Int)) = some ((63 : Nat) : Int) from rfl] at hw
  have hw' : ∀ μ', itS μ' w = some ((ns.take 63).map .int) := fun μ' => by rw [hw μ', cut_take, List.map_take]
  refine ⟨_, hw' μ, comp_m (ns.take 63) (fun z => .int (if z < 0 then -z else z)) rfl (hw' μ) (fun z hz Q q => ?_) ?_⟩
  · decreasing_trivial_pre_omega
    exact q
  intro b hb1
  have e : (ns.take 63).map (fun z => PV.int (if z < 0 then -z else z)) = ((ns.take 63).map fun z => if z < 0 then -z else z).map PV.int := by rw [List.map_map]; rfl
  rw [e]
  have hm : up μ b (.lst (((ns.take 63).map fun z => if z < 0 then -z else z).map PV.int)) b = some (.lst (((ns.take 63).map fun z => if z < 0 then -z else z).map PV.int)) := up_same
  decreasing_with simp only [↓f_lenL hm]
  have hl : (((ns.take 63).map fun z => if z < 0 then -z else z).map PV.int).length ≤ 63 := by simp; omega
  refine ⟨sm_mul (by decide) (sm_of (by omega) (by omega)), ?_⟩
  intro h hh
  refine rt_here (p h b _ ?_)
  have nb : b ≠ h := fun e => by subst e; rw [up_same] at hh; cases hh
  refine ⟨_, 0, 0, _, 0, up_same, nb, by rw [up_ne nb, up_same], ?_, by decide, by decide, by decide, by omega, by omega, by decide, by decide⟩
  intro c hc
  obtain ⟨z, hz, rfl⟩ := List.mem_map.mp hc
  have := log_bits (hb z (List.mem_of_mem_take hz))
  refine ⟨by split <;> omega, ?_⟩
  have : (if z < 0 then -z else z).natAbs = z.natAbs := by split <;> omega
  rw [this]; assumption
theorem mat_any {v : PV} {l : List PV} {R : PV → PM → Prop} (hv : seqOf μ v = some l) (h : ∀ v' μ', seqOf μ' v' = some l → R v' μ') : mat v μ R := by
  cases v with
  | tmp xs => cases hv; exact fun a ha => h _ _ (by simp only [seqOf, up_same])
  | _ => exact h _ _ hv
def tl_l2 : List S := fi_law.body.drop 2
def tl_l4 : List S := fi_law.body.drop 4
def tl_l5 : List S := fi_law.body.drop 5
def tl_l6 : List S := fi_law.body.drop 6
theorem is_letter {i : Nat} {z : Str} (hz : z = "abcdefghijkl" ∨ z = "abcdefgh") : ∀ c ∈ z.cps.toList, isName ⟨#[c]⟩ := by
  have key : ∀ c ∈ ("abcdefghijkl" : Str).cps.toList, 97 ≤ c ∧ c ≤ 122 := by decide +kernel
  have key2 : ∀ c ∈ ("abcdefgh" : Str).cps.toList, 97 ≤ c ∧ c ≤ 122 := by decide +kernel
  intro c hc
  refine ⟨Nat.le_refl 1, show 1 ≤ 8 by decide, fun d hd => ?_⟩
  have : d ∈ [c] := hd
  rw [List.mem_singleton] at this
  subst this
  rcases hz with rfl | rfl
  · exact key _ hc
  · exact key2 _ hc
theorem ch_nd {cs : List Nat} (h : cs.Nodup) : (cs.map fun c => (⟨#[c]⟩ : Str)).Nodup := by
  refine List.Pairwise.map _ (fun a b hab => ?_) h
  intro e
  have : (⟨#[a]⟩ : Str).cps.toList = (⟨#[b]⟩ : Str).cps.toList := by rw [e]
  have : [a] = [b] := this
  exact hab (by simpa using this)
abbrev eW : Elv := ⟨["w"], [], [], "d", 0, [0], 0⟩
theorem eW_right : Right eW := by
  have hn : ∀ x ∈ (["w", "d"] : List Str), isName x := by
    intro x hx
    simp only [List.mem_cons, List.not_mem_nil, or_false] at hx
    rcases hx with rfl | rfl <;> exact ⟨by decide, by decide, by decide⟩
  refine ⟨by decide, fun m hm => hn m ?_, by decide, hn _ (by simp), by decide, by decide, by decide, by decide, fun l hl => (nomatch hl), by decide, by decide, fun l hl => (nomatch hl), by decide, by decide⟩
  rw [List.mem_singleton.mp hm]
  simp
theorem sp_law {v : PV} {ns : List Int} (hv : seqOf μ v = some (ns.map .int)) (hb : ∀ z ∈ ns, Builtin.Int.intBits z ≤ 1048576) : (CS2 FT (k + 23)).fn F.law [v] μ (fun r _ => r = .bl true) X := by
  refine fn_run B.law rfl ?_
  show wpSs _ (_ :: _ :: tl_l2) _ (startP 15 _) _
  decreasing_trivial_pre_omega
  refine mat_any hv fun v' μ' hv' => ?_
  refine sp__law_hand (k := k + 20) hv' hb fun h a μ1 H1 => ?_
  decreasing_with simp only [↓s_loop', ↓b_pow]
  refine ⟨_, it_rng (n := 4) (by decide), walk_r (List.replicate 4 ()) rfl (I := fun pre ρ μ' => (∃ x2 x5 x6, ρ = [some v, some (.ref h), x2, none, none, x5, x6, none, none, none, none, none, none, none, none]) ∧ HandOk μ' h a (5000 * pre.length)) ?_ ?_ ?_ ?_⟩
  · exact ⟨⟨_, _, _, rfl⟩, H1⟩
  · intro _ _ _ _; exact it_rng (n := 4) (by decide)
  · rintro pre u post ρ μ' Q eq ⟨⟨x2, x5, x6, rfl⟩, H2⟩ hQ
    have hp : pre.length < 4 := by
      have := congrArg List.length eq
      simp at this
      omega
    decreasing_with simp only [↓s_loop', ↓b_pow]
    refine ⟨cp6, ?_⟩
    refine any_newI H2 (by omega) (fun n => 1 ≤ n ∧ n ≤ 1000000) (by simp) (by simp) (fun v hv => in1 (by decide) (in1 (by decide) (in1 (by decide) in0)) hv) fun wide μ3 hw H3 B3 => ?_
    decreasing_trivial_pre_omega
    refine sl_spec (k := k + 15) H3 (by omega) (nl := 5) (no := 4) (by decide) (by decide) hw.1 hw.2 fun e1 μ4 R1 l1 o1 H4 B4 => ?_
    decreasing_with simp only [↓s_loop']
    refine sl_ends (k := k + 15) H4 (by omega) R1 l1 fun e2 μ5 R2 l2 H5 B5 => ?_
    decreasing_with simp only [↓s_loop']
    refine ⟨[specE e1, specE e2], rfl, walk_m [e1, e2] rfl (I := fun pre' ρ μ' => (∃ x6, ρ = [some v, some (.ref h), some (.int (pre.length : Int)), none, none, some (specE e1), x6, none, none, none, none, none, none, none, none]) ∧ HandOk μ' h a (5000 * pre.length + 4000)) ?_ ?_ ?_ ?_⟩
    · exact ⟨⟨_, rfl⟩, H5.mono (by omega)⟩
    · intro _ _ _ _; rfl
    · rintro pre' e' post' ρ μ6 Q' eq' ⟨⟨x6, rfl⟩, H6⟩ hQ'
      have R' : Right e' := by
        have : e' ∈ [e1, e2] := by rw [eq']; simp
        simp only [List.mem_cons, List.not_mem_nil, or_false] at this
        rcases this with rfl | rfl
        · exact R1
        · exact R2
      decreasing_trivial_pre_omega
      refine sl_is_read (k := k + 6) R' fun μ7 s7 => ?_
      decreasing_trivial_pre_omega
      refine sl_lines_right (k := k + 6) R' fun μ8 s8 => ?_
      decreasing_trivial_pre_omega
      exact hQ' _ _ ⟨⟨_, rfl⟩, (H6.sub s7).sub s8⟩
    · rintro ρ μ6 ⟨⟨x6, rfl⟩, H6⟩
      exact hQ _ _ ⟨⟨_, _, _, rfl⟩, H6.mono (by simp; omega)⟩
  rintro ρ μ2 ⟨⟨x2, x5, x6, rfl⟩, H2⟩
  rw [List.length_replicate] at H2
  show wpSs _ (_ :: _ :: tl_l4) _ _ _
  decreasing_trivial_pre_omega
  intro b3 n3
  refine sp__law_names (H2.sub (Sub.new n3)) (by omega) (n := 3) (by decide) up_same (H2.ne n3) fun ms μ3 m1 m2 m3 H3 _ => ?_
  decreasing_trivial_pre_omega
  intro b4 n4
  refine sp__law_names (H3.sub (Sub.new n4)) (by omega) (n := 5) (by decide) up_same (H3.ne n4) fun ps μ4 p1 p2 p3 H4 _ => ?_
  decreasing_trivial_pre_omega
  intro f hf
  have nf := H4.ne hf
  have nfa := H4.neA hf
  intro g hg
  have nfg : f ≠ g := fun z => by subst z; rw [up_same] at hg; cases hg
  rw [up_ne (Ne.symm nfg)] at hg
  have ng := H4.ne hg
  have nga := H4.neA hg
  generalize hM : up (up μ4 f _) g _ = μ5
  have mf : μ5 f = some (.lst []) := by rw [← hM, up_ne nfg, up_same]
  have mg : μ5 g = some (.lst []) := by rw [← hM, up_same]
  have H5 : HandOk μ5 h a (C := 30000) := by rw [← hM]; exact ((H4.put nf nfa).put ng nga).mono (by omega)
  clear hM
  show wpSs _ (_ :: tl_l5) _ _ _
  decreasing_with simp only [↓s_loop', ↓b_pow]
  refine ⟨strItems "abcdefghijkl", rfl, walk_m ("abcdefghijkl" : Str).cps.toList rfl (I := fun pre ρ μ' => (∃ x2 x3 x5 x6 x11, ρ = [some v, some (.ref h), x2, x3, none, x5, x6, some (.tup (ms.map .str)), some (.tup (ps.map .str)), some (.ref f), some (.ref g), x11, none, none, none]) ∧
    ∃ ls : List Lot, ls.map (·.name) = pre.map (fun c => (⟨#[c]⟩ : Str)) ∧ (∀ l ∈ ls, RtLot 3 20 l) ∧ μ' f = some (.lst (ls.map lotP)) ∧ μ' g = some (.lst []) ∧ HandOk μ' h a (30000 + 20 * pre.length)) ?_ ?_ ?_ ?_⟩
  · exact ⟨⟨_, _, _, _, _, rfl⟩, [], rfl, (by intro w hw; cases hw), mf, mg, H5⟩
  · intro _ _ _ _; rfl
  · rintro pre c post ρ μ' Q eq ⟨⟨x2, x3, x5, x6, x11, rfl⟩, ls, q1, q2, q3, q4, G1⟩ hQ
    have hp : pre.length < 12 := by
      have := congrArg List.length eq
      have e12 : ("abcdefghijkl" : Str).cps.toList.length = 12 := by decide
      rw [e12] at this
      simp at this
      omega
    have hc : isName ⟨#[c]⟩ := is_letter (i := 0) (.inl rfl) c (by rw [eq]; simp)
    have hls : ls.length = pre.length := by have := congrArg List.length q1; simpa using this
    decreasing_with simp only [↓b_pow]
    refine ⟨cp6, sp__law_draw G1 (by omega) (by decide) (by decide) fun n1 ν1 r0 r1 G2 A2 => ?_⟩
    have r1 : n1 < 1000000 := r1
    decreasing_trivial_pre_omega
    refine ⟨bt_lst (A2 f _ nf q3) rfl, ?_⟩
    refine any_N G2 (by omega) (by omega) (by omega) p3 fun ow ν2 how G3 A3 => ?_
    decreasing_trivial_pre_omega
    refine sp__law_draw G3 (by omega) (by omega) (by omega) fun dy ν3 s0 s1 G4 A4 => ?_
    decreasing_trivial_pre_omega
    refine sl_ticket G4 (by omega) (m := 3) (by decide) fun tk ν4 ht G5 A5 => ?_
    have A5 : Bey h μ' ν4 := Bey.trans A2 (Bey.trans A3 (Bey.trans A4 A5))
    decreasing_trivial_pre_omega
    refine ap_lst (A5 f _ nf q3) (by simp; omega) ?_
    refine hQ _ _ ⟨⟨_, _, _, _, _, rfl⟩, ls ++ [⟨⟨#[c]⟩, ow, dy, 1 + n1, tk⟩], by simp [q1], ?_, ?_, ?_, ?_⟩
    · intro l hl
      rcases List.mem_append.mp hl with hl | hl
      · exact q2 l hl
      · rw [List.mem_singleton] at hl; subst hl
        exact ⟨hc, how, by simp only; omega, by simp only; omega, ht.1, ht.2⟩
    · rw [up_same, List.map_append]; rfl
    · rw [up_ne (Ne.symm nfg)]; exact A5 g _ ng q4
    · rw [List.length_append]
      exact (G5.mono (by simp; omega)).put nf nfa
  rintro ρ μ6 ⟨⟨x2, x3, x5, x6, x11, rfl⟩, ls, q1, q2, q3, q4, H6⟩
  have e12 : ("abcdefghijkl" : Str).cps.toList.length = 12 := by decide
  have e8 : ("abcdefgh" : Str).cps.toList.length = 8 := by decide
  have lls : ls.length = 12 := by have := congrArg List.length q1; rw [List.length_map, List.length_map, e12] at this; exact this
  rw [e12] at H6
  show wpSs _ (_ :: tl_l6) _ _ _
  decreasing_with simp only [↓s_loop', ↓b_pow]
  refine ⟨strItems "abcdefgh", rfl, walk_m ("abcdefgh" : Str).cps.toList rfl (I := fun pre ρ μ' => (∃ x2 x3 x5 x6 x11 x12 x13, ρ = [some v, some (.ref h), x2, x3, none, x5, x6, some (.tup (ms.map .str)), some (.tup (ps.map .str)), some (.ref f), some (.ref g), x11, x12, x13, none]) ∧
    ∃ os : List Odr, os.map (·.name) = pre.map (fun c => (⟨#[c]⟩ : Str)) ∧ (∀ l ∈ os, RtOdr 3 20 l) ∧ μ' g = some (.lst (os.map odrP)) ∧ μ' f = some (.lst (ls.map lotP)) ∧ HandOk μ' h a (31000 + 20 * pre.length)) ?_ ?_ ?_ ?_⟩
  · exact ⟨⟨_, _, _, _, _, _, _, rfl⟩, [], rfl, (by intro w hw; cases hw), q4, q3, H6.mono (by simp)⟩
  · intro _ _ _ _; rfl
  · rintro pre c post ρ μ' Q eq ⟨⟨x2, x3, x5, x6, x11, x12, x13, rfl⟩, os, r1, r2, r3, r4, G1⟩ hQ
    have hp : pre.length < 8 := by
      have := congrArg List.length eq
      rw [e8] at this
      simp at this
      omega
    have hc : isName ⟨#[c]⟩ := is_letter (i := 0) (.inr rfl) c (by rw [eq]; simp)
    have hos : os.length = pre.length := by have := congrArg List.length r1; simpa using this
    decreasing_with simp only [↓b_pow]
    refine ⟨cp6, sp__law_draw G1 (by omega) (by decide) (by decide) fun low ν1 s0 s1 G2 A2 => ?_⟩
    have s1 : low < 1000000 := s1
    decreasing_with simp only [↓b_pow]
    refine ⟨cp6, sm_mul (by decide) (sm_of (by decide) (by decide)), sp__law_draw G2 (by omega) (by decide) (by decide) fun pr ν2 s2 s3 G3 A3 => ?_⟩
    have s3 : pr < 2000001 := s3
    have t6 : (10 : Int) ^ Int.toNat 6 = 1000000 := by decide
    decreasing_with simp only [↓b_pow]
    refine ⟨cp6, ?_⟩
    have A3 : Bey h μ' ν2 := Bey.trans A2 A3
    refine ⟨bt_lst (A3 g _ ng r3) rfl, ?_⟩
    refine any_N G3 (by omega) (by omega) (by omega) p3 fun ow ν3 how G4 A4 => ?_
    decreasing_with simp only [↓b_pow]
    refine ⟨cp6, sl_limits G4 (by omega) (m := 3) (by decide) fun lm ν4 z1 z2 G5 A5 => ?_⟩
    have A5 : Bey h μ' ν4 := Bey.trans A3 (Bey.trans A4 A5)
    decreasing_trivial_pre_omega
    rw [t6]
    refine ap_lst (A5 g _ ng r3) (by simp; omega) ?_
    refine hQ _ _ ⟨⟨_, _, _, _, _, _, _, rfl⟩, os ++ [⟨⟨#[c]⟩, ow, 19, low, 1000000, pr - 1000000, lm⟩], by simp [r1], ?_, ?_, ?_, ?_⟩
    · intro l hl
      rcases List.mem_append.mp hl with hl | hl
      · exact r2 l hl
      · rw [List.mem_singleton] at hl; subst hl
        exact ⟨hc, how, (by show (0 : Int) ≤ 19 ∧ (19 : Int) ≤ ((20 : Nat) : Int) - 1; decide), by simp only; omega, (by show (1000000 : Int) ≤ 1000000; decide), by simp only; omega, z1, z2⟩
    · rw [up_same, List.map_append]; rfl
    · rw [up_ne nfg]; exact A5 f _ nf r4
    · rw [List.length_append]
      exact (G5.mono (by simp; omega)).put ng nga
  rintro ρ μ7 ⟨⟨x2, x3, x5, x6, x11, x12, x13, rfl⟩, os, r1, r2, r3, r4, H7⟩
  have los : os.length = 8 := by have := congrArg List.length r1; rw [List.length_map, List.length_map, e8] at this; exact this
  rw [e8] at H7
  have t6 : (10 : Int) ^ Int.toNat 6 = 1000000 := by decide
  unfold tl_l6 fi_law
  simp only [List.drop_succ_cons, List.drop_zero, startP, List.map_cons, List.map_nil, List.length_cons, List.length_nil, List.replicate_succ, List.replicate_zero, List.append_nil, List.cons_append, List.nil_append, Nat.reduceAdd, Nat.reduceSub, Nat.reduceLeDiff, List.zip_cons_cons, List.zip_nil_right, List.foldl_cons, List.foldl_nil, List.set_cons_zero, List.set_cons_succ, true_and, and_true, if_true, if_false, Bool.false_eq_true, Bool.not_true, Bool.not_false, Bool.true_eq_false, wipeP, nc, decide_true, decide_false, Int.reduceEq, Int.reduceLE, Int.reduceLT, Int.reduceNeg, Int.reduceSub, Int.reduceAdd, Int.reduceMul, Nat.reduceLT, eq_self, ↓getV_0, ↓getV_s, ↓getT_0, ↓getT_s, ↓ss_cons, ↓ss_nil, ↓s_par', ↓s_iff', ↓s_set', ↓s_ret', ↓s_retN', ↓s_ex', ↓s_brk', ↓s_cont', ↓s_pass', ↓s_setT', ↓es_cons, ↓es_nil, ↓rs_cons, ↓rs_nil, ↓e_var, ↓e_cst, ↓e_gc, ↓e_cmp, ↓e_chn, ↓e_not, ↓e_and, ↓e_or, ↓e_ite, ↓e_neg, ↓e_call, ↓e_bin, ↓e_tup', ↓e_lst', ↓m_tmp, ↓e_bf, ↓e_idx, ↓e_isi, ↓e_fld, ↓e_meth, ↓e_new, ↓e_bm, ↓e_dct, ↓e_lamc, ↓s_raise0, ↓s_try', ↓c_lt, ↓c_le, ↓c_gt, ↓c_ge, ↓c_eq, ↓c_ne, ↓c_isb, ↓c_isnb, ↓c_is, ↓c_isn, ↓c_eqb, ↓c_neb, ↓c_eqs, ↓c_nes, ↓nn_int, ↓nn_bl, ↓nn_str, ↓nn_tup, ↓nn_ref, ↓nn_non, ↓ex_bl, ↓ex_int, ↓b_add, ↓b_sub, ↓b_mul, ↓b_mod, ↓b_fdiv, ↓f_abs, ↓f_int, ↓f_lenT, ↓f_lenS, ↓f_tupT, ↓f_tupP, ↓f_min2, ↓f_min4, ↓f_max2, ↓i_tup, ↓m_int, ↓m_bl, ↓m_non, ↓m_str, ↓m_tup, ↓m_ref, ↓m_rp, ↓cs_nil, ↓cs_one, ↓a_nm, ↓a_tup, ↓as_nil, ↓as_cons, ↓up_up, ↓is_int_int, ↓is_int_bool, ↓is_int_tuple, ↓is_int_list, ↓is_int_str, ↓is_int_tuple_list, ↓is_int_dict, ↓is_int_int_str, ↓is_int_list_tuple, ↓is_int_own, ↓is_bool_int, ↓is_bool_bool, ↓is_bool_tuple, ↓is_bool_list, ↓is_bool_str, ↓is_bool_tuple_list, ↓is_bool_dict, ↓is_bool_int_str, ↓is_bool_list_tuple, ↓is_bool_own, ↓is_str_int, ↓is_str_bool, ↓is_str_tuple, ↓is_str_list, ↓is_str_str, ↓is_str_tuple_list, ↓is_str_dict, ↓is_str_int_str, ↓is_str_list_tuple, ↓is_str_own, ↓is_tuple_int, ↓is_tuple_bool, ↓is_tuple_tuple, ↓is_tuple_list, ↓is_tuple_str, ↓is_tuple_tuple_list, ↓is_tuple_dict, ↓is_tuple_int_str, ↓is_tuple_list_tuple, ↓is_tuple_own, ↓is_NoneType_int, ↓is_NoneType_bool, ↓is_NoneType_tuple, ↓is_NoneType_list, ↓is_NoneType_str, ↓is_NoneType_tuple_list, ↓is_NoneType_dict, ↓is_NoneType_int_str, ↓is_NoneType_list_tuple, ↓is_NoneType_own, ↓e_comp, ↓b_pow]
  obtain ⟨p0, pr, rfl⟩ : ∃ p0 pr, ps = p0 :: pr := by
    cases ps with
    | nil => simp at p1
    | cons x r => exact ⟨x, r, rfl⟩
  decreasing_with simp only [↓e_comp, ↓b_pow]
  refine ⟨cp6, sp__law_draw H7 (by omega) (by decide) (by decide) fun cost μ8 c0 c1 H8 B8 => ?_⟩
  have c1 : cost < 1000001 := c1
  decreasing_with simp only [↓e_comp, ↓b_pow]
  refine ⟨_, it_rng (n := 20) (by decide), comp_inv (I := fun pre acc μ' => ∃ rs : List Int, acc = rs.map .int ∧ rs.length = pre.length ∧ (∀ r ∈ rs, 0 ≤ r ∧ r ≤ 1000000) ∧ HandOk μ' h a (32000 + pre.length) ∧ Bey h μ7 μ') ?_ ?_ ?_ ?_⟩
  · exact ⟨[], rfl, rfl, (by intro w hw; cases hw), H8.mono (by simp), B8⟩
  · intro _ _ _ _; exact it_rng (n := 20) (by decide)
  · rintro pre x post acc μ' Q eq ⟨rs, rfl, w1, w2, G1, A1⟩ hQ
    have hp : pre.length < 20 := by
      have := congrArg List.length eq
      simp [rngItems] at this
      omega
    refine ⟨cp6, sp__law_draw G1 (by omega) (by decide) (by decide) fun r ν1 s0 s1 G2 A2 => ?_⟩
    have s1 : r < 1000001 := s1
    refine hQ _ _ ⟨rs ++ [r], by simp, by simp [w1], ?_, by rw [List.length_append]; exact G2, Bey.trans A1 A2⟩
    intro m hm
    rcases List.mem_append.mp hm with hm | hm
    · exact w2 m hm
    · rw [List.mem_singleton] at hm; subst hm; omega
  rintro acc μ9 ⟨rs, rfl, w1, w2, H9, B9⟩
  have w1 : rs.length = 20 := by rw [w1]; simp [rngItems]
  have f9 := B9 f _ nf r4
  have g9 := B9 g _ ng r3
  decreasing_with simp only [↓f_tupL f9, ↓f_tupL g9]
  refine ⟨cp6, ?_⟩
  rw [t6]
  have lm : ms.length = 3 := m1
  have RB : Right ⟨ms, ls, os, p0, cost, rs, 1000000⟩ := by
    refine ⟨by simp only; omega, m3, m2, p3 _ (by simp), by simp only; omega, by simp only; omega, w2, by simp only; omega, ?_, ?_, by simp only; omega, ?_, ?_, by simp only; omega⟩
    · simp only; rw [m1, w1]; exact q2
    · simp only; rw [q1]; exact ch_nd (by decide)
    · simp only; rw [m1, w1]; exact r2
    · simp only; rw [r1]; exact ch_nd (by decide)
  have e1 : specE (⟨ms, ls, os, p0, cost, rs, 1000000⟩ : Elv) = .tup [.tup (ms.map .str), .tup (ls.map lotP), .tup (os.map odrP), .tup [.str p0, .int cost, .tup (rs.map .int)], .int 1000000] := rfl
  rw [← e1]
  generalize (⟨ms, ls, os, p0, cost, rs, 1000000⟩ : Elv) = eb at RB
  have e2 : specE eW = PV.tup [PV.tup [PV.str "w"], PV.tup [], PV.tup [], PV.tup [PV.str "d", PV.int 0, PV.tup [PV.int 0]], PV.int 0] := rfl
  rw [← e2]
  have rw' := eW_right
  generalize eW = ew at rw'
  refine sl_is_read (k := k + 6) RB fun μ10 s10 => ?_
  decreasing_trivial_pre_omega
  refine sl_lines_right (k := k + 6) RB fun μ11 s11 => ?_
  decreasing_trivial_pre_omega
  refine sl_is_read (k := k + 6) rw' fun μ12 s12 => ?_
  decreasing_trivial_pre_omega
  exact ⟨_, Sub.refl⟩
end

end G

namespace G
open PySem PySem.Spec PyProof.Rows L2
namespace k04
abbrev pw : Program := PySem.Challenge.pw_grainlines_k04_whole_elevator_texts
abbrev rw : PySem.W.OpenLaw := PySem.Challenge.rw_grainlines_k04_whole_elevator_texts
def pass0_ : Stmt := .Pass ⟨0, 0, 0, 0⟩
def top (i : Nat) : Stmt := pw.main.body.getD i pass0_
def mth (i j : Nat) : Stmt := match top i with
  | .ClassDef _ _ _ b _ _ _ _ _ _ _ => b.getD j pass0_
  | _ => pass0_
def e_is_integer : FE := ⟨F.is_integer, ⟨("is_integer", none), "is_integer", "is_integer", defArgs (top 4), defBody (top 4), defScope (top 4), [], []⟩, ["thing"], ["thing"], false⟩
theorem b_is_integer : bindOk e_is_integer := fun _ _ _ _ _ _ us hl => match us, hl with
  | [_], _ => rfl
def e_is_within : FE := ⟨F.is_within, ⟨("is_within", none), "is_within", "is_within", defArgs (top 5), defBody (top 5), defScope (top 5), [], []⟩, ["thing", "low", "high"], ["thing", "low", "high"], false⟩
theorem b_is_within : bindOk e_is_within := fun _ _ _ _ _ _ us hl => match us, hl with
  | [_, _, _], _ => rfl
def e_is_name : FE := ⟨F.is_name, ⟨("is_name", none), "is_name", "is_name", defArgs (top 6), defBody (top 6), defScope (top 6), [], []⟩, ["thing", "sign"], ["thing"], false⟩
theorem b_is_name : bindOk e_is_name := fun _ _ _ _ _ _ us hl => match us, hl with
  | [_], _ => rfl
def e_is_tuple_of : FE := ⟨F.is_tuple_of, ⟨("is_tuple_of", none), "is_tuple_of", "is_tuple_of", defArgs (top 7), defBody (top 7), defScope (top 7), [], []⟩, ["thing", "many"], ["thing", "many"], false⟩
theorem b_is_tuple_of : bindOk e_is_tuple_of := fun _ _ _ _ _ _ us hl => match us, hl with
  | [_, _], _ => rfl
def e_is_pair : FE := ⟨F.is_pair, ⟨("is_pair", none), "is_pair", "is_pair", defArgs (top 8), defBody (top 8), defScope (top 8), [], []⟩, ["thing", "most"], ["thing", "most"], false⟩
theorem b_is_pair : bindOk e_is_pair := fun _ _ _ _ _ _ us hl => match us, hl with
  | [_, _], _ => rfl
def e_is_ticket : FE := ⟨F.is_ticket, ⟨("is_ticket", none), "is_ticket", "is_ticket", defArgs (top 9), defBody (top 9), defScope (top 9), [], []⟩, ["thing", "many", "pair"], ["thing", "many"], false⟩
theorem b_is_ticket : bindOk e_is_ticket := fun _ _ _ _ _ _ us hl => match us, hl with
  | [_, _], _ => rfl
def e_is_limit : FE := ⟨F.is_limit, ⟨("is_limit", none), "is_limit", "is_limit", defArgs (top 10), defBody (top 10), defScope (top 10), [], []⟩, ["thing", "end"], ["thing"], false⟩
theorem b_is_limit : bindOk e_is_limit := fun _ _ _ _ _ _ us hl => match us, hl with
  | [_], _ => rfl
def e_are_limits : FE := ⟨F.are_limits, ⟨("are_limits", none), "are_limits", "are_limits", defArgs (top 11), defBody (top 11), defScope (top 11), [], []⟩, ["thing", "many", "pair"], ["thing", "many"], false⟩
theorem b_are_limits : bindOk e_are_limits := fun _ _ _ _ _ _ us hl => match us, hl with
  | [_, _], _ => rfl
def e_is_measures : FE := ⟨F.is_measures, ⟨("is_measures", none), "is_measures", "is_measures", defArgs (top 33), defBody (top 33), defScope (top 33), [], []⟩, ["thing", "name"], ["thing"], false⟩
theorem b_is_measures : bindOk e_is_measures := fun _ _ _ _ _ _ us hl => match us, hl with
  | [_], _ => rfl
def e_is_dryer : FE := ⟨F.is_dryer, ⟨("is_dryer", none), "is_dryer", "is_dryer", defArgs (top 34), defBody (top 34), defScope (top 34), [], []⟩, ["thing", "room"], ["thing"], false⟩
theorem b_is_dryer : bindOk e_is_dryer := fun _ _ _ _ _ _ us hl => match us, hl with
  | [_], _ => rfl
def e_is_lot : FE := ⟨F.is_lot, ⟨("is_lot", none), "is_lot", "is_lot", defArgs (top 35), defBody (top 35), defScope (top 35), [], []⟩, ["many", "days", "thing"], ["many", "days", "thing"], false⟩
theorem b_is_lot : bindOk e_is_lot := fun _ _ _ _ _ _ us hl => match us, hl with
  | [_, _, _], _ => rfl
def e_is_order : FE := ⟨F.is_order, ⟨("is_order", none), "is_order", "is_order", defArgs (top 36), defBody (top 36), defScope (top 36), [], []⟩, ["many", "days", "thing"], ["many", "days", "thing"], false⟩
theorem b_is_order : bindOk e_is_order := fun _ _ _ _ _ _ us hl => match us, hl with
  | [_, _, _], _ => rfl
def e_check_lots : FE := ⟨F.check_lots, ⟨("check_lots", none), "check_lots", "check_lots", defArgs (top 37), defBody (top 37), defScope (top 37), [], []⟩, ["many", "days", "lots", "names", "at", "lot"], ["many", "days", "lots"], false⟩
theorem b_check_lots : bindOk e_check_lots := fun _ _ _ _ _ _ us hl => match us, hl with
  | [_, _, _], _ => rfl
def e_check_orders : FE := ⟨F.check_orders, ⟨("check_orders", none), "check_orders", "check_orders", defArgs (top 38), defBody (top 38), defScope (top 38), [], []⟩, ["many", "days", "orders", "names", "at", "order"], ["many", "days", "orders"], false⟩
theorem b_check_orders : bindOk e_check_orders := fun _ _ _ _ _ _ us hl => match us, hl with
  | [_, _, _], _ => rfl
def e_Elevator___init__ : FE := ⟨F.Elevator___init__, ⟨("Elevator", some "__init__"), "__init__", "Elevator.__init__", defArgs (mth 39 0), defBody (mth 39 0), defScope (mth 39 0), [], []⟩, ["self", "measures", "lots", "orders", "dryer", "storing"], ["self", "measures", "lots", "orders", "dryer", "storing"], false⟩
theorem b_Elevator___init__ : bindOk e_Elevator___init__ := fun _ _ _ _ _ _ us hl => match us, hl with
  | [_, _, _, _, _, _], _ => rfl
def e_Elevator_told : FE := ⟨F.Elevator_told, ⟨("Elevator", some "told"), "told", "Elevator.told", defArgs (mth 39 1), defBody (mth 39 1), defScope (mth 39 1), [], []⟩, ["self"], ["self"], false⟩
theorem b_Elevator_told : bindOk e_Elevator_told := fun _ _ _ _ _ _ us hl => match us, hl with
  | [_], _ => rfl
def e_Elevator___eq__ : FE := ⟨F.Elevator___eq__, ⟨("Elevator", some "__eq__"), "__eq__", "Elevator.__eq__", defArgs (mth 39 2), defBody (mth 39 2), defScope (mth 39 2), [], []⟩, ["self", "other"], ["self", "other"], false⟩
theorem b_Elevator___eq__ : bindOk e_Elevator___eq__ := fun _ _ _ _ _ _ us hl => match us, hl with
  | [_, _], _ => rfl
def e_check_elevator : FE := ⟨F.check_elevator, ⟨("check_elevator", none), "check_elevator", "check_elevator", defArgs (top 40), defBody (top 40), defScope (top 40), [], []⟩, ["elevator"], ["elevator"], false⟩
theorem b_check_elevator : bindOk e_check_elevator := fun _ _ _ _ _ _ us hl => match us, hl with
  | [_], _ => rfl
def e_changed : FE := ⟨F.changed, ⟨("changed", none), "changed", "changed", defArgs (top 41), defBody (top 41), defScope (top 41), [], []⟩, ["elevator", "lots", "orders"], ["elevator", "lots", "orders"], false⟩
theorem b_changed : bindOk e_changed := fun _ _ _ _ _ _ us hl => match us, hl with
  | [_, _, _], _ => rfl
def e_with_lot : FE := ⟨F.with_lot, ⟨("with_lot", none), "with_lot", "with_lot", defArgs (top 42), defBody (top 42), defScope (top 42), [], []⟩, ["elevator", "lot"], ["elevator", "lot"], false⟩
theorem b_with_lot : bindOk e_with_lot := fun _ _ _ _ _ _ us hl => match us, hl with
  | [_, _], _ => rfl
def e_with_order : FE := ⟨F.with_order, ⟨("with_order", none), "with_order", "with_order", defArgs (top 43), defBody (top 43), defScope (top 43), [], []⟩, ["elevator", "order"], ["elevator", "order"], false⟩
theorem b_with_order : bindOk e_with_order := fun _ _ _ _ _ _ us hl => match us, hl with
  | [_, _], _ => rfl
def e_word_of : FE := ⟨F.word_of, ⟨("word_of", none), "word_of", "word_of", defArgs (top 44), defBody (top 44), defScope (top 44), [], []⟩, ["thing"], ["thing"], false⟩
theorem b_word_of : bindOk e_word_of := fun _ _ _ _ _ _ us hl => match us, hl with
  | [_], _ => rfl
def e_line_of : FE := ⟨F.line_of, ⟨("line_of", none), "line_of", "line_of", defArgs (top 45), defBody (top 45), defScope (top 45), [], []⟩, ["words", "word"], ["words"], false⟩
theorem b_line_of : bindOk e_line_of := fun _ _ _ _ _ _ us hl => match us, hl with
  | [_], _ => rfl
def e_elevator_text : FE := ⟨F.elevator_text, ⟨("elevator_text", none), "elevator_text", "elevator_text", defArgs (top 46), defBody (top 46), defScope (top 46), [], []⟩, ["elevator", "found", "lot", "order", "owner", "cost", "rooms", "pair", "end"], ["elevator"], false⟩
theorem b_elevator_text : bindOk e_elevator_text := fun _ _ _ _ _ _ us hl => match us, hl with
  | [_], _ => rfl
def e_integer_of : FE := ⟨F.integer_of, ⟨("integer_of", none), "integer_of", "integer_of", defArgs (top 47), defBody (top 47), defScope (top 47), [], []⟩, ["word", "digits", "sign"], ["word"], false⟩
theorem b_integer_of : bindOk e_integer_of := fun _ _ _ _ _ _ us hl => match us, hl with
  | [_], _ => rfl
def e_integers_of : FE := ⟨F.integers_of, ⟨("integers_of", none), "integers_of", "integers_of", defArgs (top 48), defBody (top 48), defScope (top 48), [], []⟩, ["words", "found", "word"], ["words"], false⟩
theorem b_integers_of : bindOk e_integers_of := fun _ _ _ _ _ _ us hl => match us, hl with
  | [_], _ => rfl
def e_pairs_of : FE := ⟨F.pairs_of, ⟨("pairs_of", none), "pairs_of", "pairs_of", defArgs (top 49), defBody (top 49), defScope (top 49), [], []⟩, ["things", "at"], ["things"], false⟩
theorem b_pairs_of : bindOk e_pairs_of := fun _ _ _ _ _ _ us hl => match us, hl with
  | [_], _ => rfl
def e_read_lot : FE := ⟨F.read_lot, ⟨("read_lot", none), "read_lot", "read_lot", defArgs (top 50), defBody (top 50), defScope (top 50), [], []⟩, ["many", "words", "numbers"], ["many", "words"], false⟩
theorem b_read_lot : bindOk e_read_lot := fun _ _ _ _ _ _ us hl => match us, hl with
  | [_, _], _ => rfl
def e_read_order : FE := ⟨F.read_order, ⟨("read_order", none), "read_order", "read_order", defArgs (top 51), defBody (top 51), defScope (top 51), [], []⟩, ["many", "words", "numbers", "limits", "word"], ["many", "words"], false⟩
theorem b_read_order : bindOk e_read_order := fun _ _ _ _ _ _ us hl => match us, hl with
  | [_, _], _ => rfl
def e_read_head : FE := ⟨F.read_head, ⟨("read_head", none), "read_head", "read_head", defArgs (top 52), defBody (top 52), defScope (top 52), [], []⟩, ["lines", "words", "numbers", "dryer", "line", "word"], ["lines"], false⟩
theorem b_read_head : bindOk e_read_head := fun _ _ _ _ _ _ us hl => match us, hl with
  | [_], _ => rfl
def e_read_rows : FE := ⟨F.read_rows, ⟨("read_rows", none), "read_rows", "read_rows", defArgs (top 53), defBody (top 53), defScope (top 53), [], []⟩, ["many", "lines", "lots", "orders", "at", "line", "words", "lot", "order"], ["many", "lines"], false⟩
theorem b_read_rows : bindOk e_read_rows := fun _ _ _ _ _ _ us hl => match us, hl with
  | [_, _], _ => rfl
def e_read_elevator : FE := ⟨F.read_elevator, ⟨("read_elevator", none), "read_elevator", "read_elevator", defArgs (top 54), defBody (top 54), defScope (top 54), [], []⟩, ["text", "lines", "rest", "head", "lots", "orders"], ["text"], false⟩
theorem b_read_elevator : bindOk e_read_elevator := fun _ _ _ _ _ _ us hl => match us, hl with
  | [_], _ => rfl
def e__law_hand : FE := ⟨F._law_hand, ⟨("_law_hand", none), "_law_hand", "_law_hand", defArgs (top 56), defBody (top 56), defScope (top 56), [], []⟩, ["script", "cells", "cell"], ["script"], false⟩
theorem b__law_hand : bindOk e__law_hand := fun _ _ _ _ _ _ us hl => match us, hl with
  | [_], _ => rfl
def e__law_draw : FE := ⟨F._law_draw, ⟨("_law_draw", none), "_law_draw", "_law_draw", defArgs (top 57), defBody (top 57), defScope (top 57), [], []⟩, ["hand", "many", "number", "cell", "digit"], ["hand", "many"], false⟩
theorem b__law_draw : bindOk e__law_draw := fun _ _ _ _ _ _ us hl => match us, hl with
  | [_, _], _ => rfl
def e__law_any : FE := ⟨F._law_any, ⟨("_law_any", none), "_law_any", "_law_any", defArgs (top 58), defBody (top 58), defScope (top 58), [], []⟩, ["hand", "some"], ["hand", "some"], false⟩
theorem b__law_any : bindOk e__law_any := fun _ _ _ _ _ _ us hl => match us, hl with
  | [_, _], _ => rfl
def e__law_name : FE := ⟨F._law_name, ⟨("_law_name", none), "_law_name", "_law_name", defArgs (top 59), defBody (top 59), defScope (top 59), [], []⟩, ["hand", "taken", "letters", "word", "letter", "turn"], ["hand", "taken"], false⟩
theorem b__law_name : bindOk e__law_name := fun _ _ _ _ _ _ us hl => match us, hl with
  | [_, _], _ => rfl
def e__law_names : FE := ⟨F._law_names, ⟨("_law_names", none), "_law_names", "_law_names", defArgs (top 60), defBody (top 60), defScope (top 60), [], []⟩, ["hand", "many", "taken", "found", "turn"], ["hand", "many", "taken"], false⟩
theorem b__law_names : bindOk e__law_names := fun _ _ _ _ _ _ us hl => match us, hl with
  | [_, _, _], _ => rfl
def e__law_is : FE := ⟨F._law_is, ⟨("_law_is", none), "_law_is", "_law_is", defArgs (top 61), defBody (top 61), defScope (top 61), [], []⟩, ["answer", "due", "one", "other"], ["answer", "due"], false⟩
theorem b__law_is : bindOk e__law_is := fun _ _ _ _ _ _ us hl => match us, hl with
  | [_, _], _ => rfl
def e__law_ticket : FE := ⟨F._law_ticket, ⟨("_law_ticket", none), "_law_ticket", "_law_ticket", defArgs (top 62), defBody (top 62), defScope (top 62), [], []⟩, ["hand", "many", "found", "turn", "lo"], ["hand", "many"], false⟩
theorem b__law_ticket : bindOk e__law_ticket := fun _ _ _ _ _ _ us hl => match us, hl with
  | [_, _], _ => rfl
def e__law_stock : FE := ⟨F._law_stock, ⟨("_law_stock", none), "_law_stock", "_law_stock", defArgs (top 63), defBody (top 63), defScope (top 63), [], []⟩, ["hand", "many", "lots", "days", "wide", "people", "word", "limits", "dryer", "taken", "found", "weight", "day"], ["hand", "many", "lots", "days", "wide", "people"], false⟩
theorem b__law_stock : bindOk e__law_stock := fun _ _ _ _ _ _ us hl => match us, hl with
  | [_, _, _, _, _, _], _ => rfl
def e__law_limits : FE := ⟨F._law_limits, ⟨("_law_limits", none), "_law_limits", "_law_limits", defArgs (top 64), defBody (top 64), defScope (top 64), [], []⟩, ["hand", "many", "found", "turn", "kind", "lo", "hi"], ["hand", "many"], false⟩
theorem b__law_limits : bindOk e__law_limits := fun _ _ _ _ _ _ us hl => match us, hl with
  | [_, _], _ => rfl
def e__law_text : FE := ⟨F._law_text, ⟨("_law_text", none), "_law_text", "_law_text", defArgs (top 65), defBody (top 65), defScope (top 65), [], []⟩, ["spec", "lines", "lot", "order", "words", "pair", "line", "one"], ["spec"], false⟩
theorem b__law_text : bindOk e__law_text := fun _ _ _ _ _ _ us hl => match us, hl with
  | [_], _ => rfl
def e__law_made : FE := ⟨F._law_made, ⟨("_law_made", none), "_law_made", "_law_made", defArgs (top 66), defBody (top 66), defScope (top 66), [], []⟩, ["spec"], ["spec"], false⟩
theorem b__law_made : bindOk e__law_made := fun _ _ _ _ _ _ us hl => match us, hl with
  | [_], _ => rfl
def e__law_fields : FE := ⟨F._law_fields, ⟨("_law_fields", none), "_law_fields", "_law_fields", defArgs (top 67), defBody (top 67), defScope (top 67), [], []⟩, ["elevator"], ["elevator"], false⟩
theorem b__law_fields : bindOk e__law_fields := fun _ _ _ _ _ _ us hl => match us, hl with
  | [_], _ => rfl
def e__law_spec : FE := ⟨F._law_spec, ⟨("_law_spec", none), "_law_spec", "_law_spec", defArgs (top 68), defBody (top 68), defScope (top 68), [], []⟩, ["hand", "lots", "orders", "wide", "found", "word", "many", "days", "people", "measures", "stock", "dryer", "keep", "low", "day", "high", "price"], ["hand", "lots", "orders", "wide"], false⟩
theorem b__law_spec : bindOk e__law_spec := fun _ _ _ _ _ _ us hl => match us, hl with
  | [_, _, _, _], _ => rfl
def e__law_is_read : FE := ⟨F._law_is_read, ⟨("_law_is_read", none), "_law_is_read", "_law_is_read", defArgs (top 69), defBody (top 69), defScope (top 69), [], []⟩, ["spec", "text", "read", "elevator"], ["spec"], false⟩
theorem b__law_is_read : bindOk e__law_is_read := fun _ _ _ _ _ _ us hl => match us, hl with
  | [_], _ => rfl
def e__law_ends : FE := ⟨F._law_ends, ⟨("_law_ends", none), "_law_ends", "_law_ends", defArgs (top 70), defBody (top 70), defScope (top 70), [], []⟩, ["hand", "spec", "one", "dryer", "names", "words", "lots", "orders", "at", "lot", "name", "ticket", "limits", "price", "pair", "word"], ["hand", "spec"], false⟩
theorem b__law_ends : bindOk e__law_ends := fun _ _ _ _ _ _ us hl => match us, hl with
  | [_, _], _ => rfl
def e__law_lines_right : FE := ⟨F._law_lines_right, ⟨("_law_lines_right", none), "_law_lines_right", "_law_lines_right", defArgs (top 71), defBody (top 71), defScope (top 71), [], []⟩, ["spec", "lines", "elevator", "at", "order", "lot", "due", "line"], ["spec"], false⟩
theorem b__law_lines_right : bindOk e__law_lines_right := fun _ _ _ _ _ _ us hl => match us, hl with
  | [_], _ => rfl
def e_law : FE := ⟨F.law, ⟨("law", none), "law", "law", defArgs (top 72), defBody (top 72), defScope (top 72), [], []⟩, ["script", "hand", "turn", "letter", "dryer", "spec", "some", "measures", "people", "lots", "orders", "weight", "low", "price", "day"], ["script"], false⟩
theorem b_law : bindOk e_law := fun _ _ _ _ _ _ us hl => match us, hl with
  | [_], _ => rfl
def es : List FE := [e_is_integer, e_is_within, e_is_name, e_is_tuple_of, e_is_pair, e_is_ticket, e_is_limit, e_are_limits, e_is_measures, e_is_dryer, e_is_lot, e_is_order, e_check_lots, e_check_orders, e_Elevator___init__, e_Elevator_told, e_Elevator___eq__, e_check_elevator, e_changed, e_with_lot, e_with_order, e_word_of, e_line_of, e_elevator_text, e_integer_of, e_integers_of, e_pairs_of, e_read_lot, e_read_order, e_read_head, e_read_rows, e_read_elevator, e__law_hand, e__law_draw, e__law_any, e__law_name, e__law_names, e__law_is, e__law_ticket, e__law_stock, e__law_limits, e__law_text, e__law_made, e__law_fields, e__law_spec, e__law_is_read, e__law_ends, e__law_lines_right, e_law]
def ts : List FE := []
def hs : List FE := []
def ms : List FE := []
def fns : List He.DefD := (es ++ (ts ++ hs)).map (·.d)
def tbl : List (Nat × FI) := [(F.is_integer, fi_is_integer), (F.is_within, fi_is_within), (F.is_name, fi_is_name), (F.is_tuple_of, fi_is_tuple_of), (F.is_pair, fi_is_pair), (F.is_ticket, fi_is_ticket), (F.is_limit, fi_is_limit), (F.are_limits, fi_are_limits), (F.is_measures, fi_is_measures), (F.is_dryer, fi_is_dryer), (F.is_lot, fi_is_lot), (F.is_order, fi_is_order), (F.check_lots, fi_check_lots), (F.check_orders, fi_check_orders), (F.Elevator___init__, fi_Elevator___init__), (F.Elevator_told, fi_Elevator_told), (F.Elevator___eq__, fi_Elevator___eq__), (F.check_elevator, fi_check_elevator), (F.changed, fi_changed), (F.with_lot, fi_with_lot), (F.with_order, fi_with_order), (F.word_of, fi_word_of), (F.line_of, fi_line_of), (F.elevator_text, fi_elevator_text), (F.integer_of, fi_integer_of), (F.integers_of, fi_integers_of), (F.pairs_of, fi_pairs_of), (F.read_lot, fi_read_lot), (F.read_order, fi_read_order), (F.read_head, fi_read_head), (F.read_rows, fi_read_rows), (F.read_elevator, fi_read_elevator), (F._law_hand, fi__law_hand), (F._law_draw, fi__law_draw), (F._law_any, fi__law_any), (F._law_name, fi__law_name), (F._law_names, fi__law_names), (F._law_is, fi__law_is), (F._law_ticket, fi__law_ticket), (F._law_stock, fi__law_stock), (F._law_limits, fi__law_limits), (F._law_text, fi__law_text), (F._law_made, fi__law_made), (F._law_fields, fi__law_fields), (F._law_spec, fi__law_spec), (F._law_is_read, fi__law_is_read), (F._law_ends, fi__law_ends), (F._law_lines_right, fi__law_lines_right), (F.law, fi_law)]
def FT : Nat → Option FI := fun n => tbl.lookup n
def gs : GS where
  fns := [(F.is_integer, ("is_integer" : Str), none), (F.is_within, ("is_within" : Str), none), (F.is_name, ("is_name" : Str), none), (F.is_tuple_of, ("is_tuple_of" : Str), none), (F.is_pair, ("is_pair" : Str), none), (F.is_ticket, ("is_ticket" : Str), none), (F.is_limit, ("is_limit" : Str), none), (F.are_limits, ("are_limits" : Str), none), (F.is_measures, ("is_measures" : Str), none), (F.is_dryer, ("is_dryer" : Str), none), (F.is_lot, ("is_lot" : Str), none), (F.is_order, ("is_order" : Str), none), (F.check_lots, ("check_lots" : Str), none), (F.check_orders, ("check_orders" : Str), none), (F.Elevator___init__, ("Elevator" : Str), some ("__init__" : Str)), (F.Elevator_told, ("Elevator" : Str), some ("told" : Str)), (F.Elevator___eq__, ("Elevator" : Str), some ("__eq__" : Str)), (F.check_elevator, ("check_elevator" : Str), none), (F.changed, ("changed" : Str), none), (F.with_lot, ("with_lot" : Str), none), (F.with_order, ("with_order" : Str), none), (F.word_of, ("word_of" : Str), none), (F.line_of, ("line_of" : Str), none), (F.elevator_text, ("elevator_text" : Str), none), (F.integer_of, ("integer_of" : Str), none), (F.integers_of, ("integers_of" : Str), none), (F.pairs_of, ("pairs_of" : Str), none), (F.read_lot, ("read_lot" : Str), none), (F.read_order, ("read_order" : Str), none), (F.read_head, ("read_head" : Str), none), (F.read_rows, ("read_rows" : Str), none), (F.read_elevator, ("read_elevator" : Str), none), (F._law_hand, ("_law_hand" : Str), none), (F._law_draw, ("_law_draw" : Str), none), (F._law_any, ("_law_any" : Str), none), (F._law_name, ("_law_name" : Str), none), (F._law_names, ("_law_names" : Str), none), (F._law_is, ("_law_is" : Str), none), (F._law_ticket, ("_law_ticket" : Str), none), (F._law_stock, ("_law_stock" : Str), none), (F._law_limits, ("_law_limits" : Str), none), (F._law_text, ("_law_text" : Str), none), (F._law_made, ("_law_made" : Str), none), (F._law_fields, ("_law_fields" : Str), none), (F._law_spec, ("_law_spec" : Str), none), (F._law_is_read, ("_law_is_read" : Str), none), (F._law_ends, ("_law_ends" : Str), none), (F._law_lines_right, ("_law_lines_right" : Str), none), (F.law, ("law" : Str), none)]
  consts := [("DRYER", (.str "dryer")), ("LETTERS", (.str "abcdefghijklmnopqrstuvwxyz")), ("LOT", (.str "lot")), ("LOTS", (.str "lots")), ("MEASURES", (.str "measures")), ("MISSING", (.str "-")), ("MOST_DAYS", (.int 20)), ("MOST_DIGITS", (.int 9)), ("MOST_LOTS", (.int 12)), ("MOST_MEASURES", (.int 3)), ("MOST_NAME", (.int 8)), ("MOST_ORDERS", (.int 8)), ("MOST_PRICE", (.int 1000000)), ("MOST_WEIGHT", (.int 1000000)), ("ORDER", (.str "order")), ("ORDERS", (.str "orders")), ("STORING", (.str "storing")), ("THOUSAND", (.int 1000))]
  free := ["abs", "all", "bool", "enumerate", "int", "isinstance", "len", "list", "min", "range", "set", "sorted", "str", "tuple", "zip"]
  owns := ["Elevator"]
  classes := ["Elevator"]
  flds := [("Elevator", "dryer"), ("Elevator", "lots"), ("Elevator", "measures"), ("Elevator", "orders"), ("Elevator", "storing")]
  meths := [("Elevator", "__eq__"), ("Elevator", "told")]
  makes := [("Elevator", F.Elevator___init__)]
  asked := [(.bt "bool"), (.bt "int"), (.bt "list"), (.bt "str"), (.bt "tuple"), (.own "Elevator")]
  excs := ["GrainError", "NoElevator"]
  exask := []
  lfs := []
  hfs := []
theorem fe_all : (es.all fun e => feB gs FT e) = true := by decide +kernel
theorem ex_all : (gs.fns.all fun p => es.any fun e => e.f == p.1 && decide (e.d.at_ = p.2)) = true := by decide +kernel
theorem law_mem : e_law ∈ es := List.mem_of_getElem? (i := 48) rfl
theorem law_fn : (F.law, ("law" : Str), none) ∈ gs.fns := List.mem_of_getElem? (i := 48) rfl
theorem b_all : ∀ e ∈ es, bindOk e := List.forall_mem_cons.mpr ⟨b_is_integer, List.forall_mem_cons.mpr ⟨b_is_within, List.forall_mem_cons.mpr ⟨b_is_name, List.forall_mem_cons.mpr ⟨b_is_tuple_of, List.forall_mem_cons.mpr ⟨b_is_pair, List.forall_mem_cons.mpr ⟨b_is_ticket, List.forall_mem_cons.mpr ⟨b_is_limit, List.forall_mem_cons.mpr ⟨b_are_limits, List.forall_mem_cons.mpr ⟨b_is_measures, List.forall_mem_cons.mpr ⟨b_is_dryer, List.forall_mem_cons.mpr ⟨b_is_lot, List.forall_mem_cons.mpr ⟨b_is_order, List.forall_mem_cons.mpr ⟨b_check_lots, List.forall_mem_cons.mpr ⟨b_check_orders, List.forall_mem_cons.mpr ⟨b_Elevator___init__, List.forall_mem_cons.mpr ⟨b_Elevator_told, List.forall_mem_cons.mpr ⟨b_Elevator___eq__, List.forall_mem_cons.mpr ⟨b_check_elevator, List.forall_mem_cons.mpr ⟨b_changed, List.forall_mem_cons.mpr ⟨b_with_lot, List.forall_mem_cons.mpr ⟨b_with_order, List.forall_mem_cons.mpr ⟨b_word_of, List.forall_mem_cons.mpr ⟨b_line_of, List.forall_mem_cons.mpr ⟨b_elevator_text, List.forall_mem_cons.mpr ⟨b_integer_of, List.forall_mem_cons.mpr ⟨b_integers_of, List.forall_mem_cons.mpr ⟨b_pairs_of, List.forall_mem_cons.mpr ⟨b_read_lot, List.forall_mem_cons.mpr ⟨b_read_order, List.forall_mem_cons.mpr ⟨b_read_head, List.forall_mem_cons.mpr ⟨b_read_rows, List.forall_mem_cons.mpr ⟨b_read_elevator, List.forall_mem_cons.mpr ⟨b__law_hand, List.forall_mem_cons.mpr ⟨b__law_draw, List.forall_mem_cons.mpr ⟨b__law_any, List.forall_mem_cons.mpr ⟨b__law_name, List.forall_mem_cons.mpr ⟨b__law_names, List.forall_mem_cons.mpr ⟨b__law_is, List.forall_mem_cons.mpr ⟨b__law_ticket, List.forall_mem_cons.mpr ⟨b__law_stock, List.forall_mem_cons.mpr ⟨b__law_limits, List.forall_mem_cons.mpr ⟨b__law_text, List.forall_mem_cons.mpr ⟨b__law_made, List.forall_mem_cons.mpr ⟨b__law_fields, List.forall_mem_cons.mpr ⟨b__law_spec, List.forall_mem_cons.mpr ⟨b__law_is_read, List.forall_mem_cons.mpr ⟨b__law_ends, List.forall_mem_cons.mpr ⟨b__law_lines_right, List.forall_mem_cons.mpr ⟨b_law, fun _ h => nomatch h⟩⟩⟩⟩⟩⟩⟩⟩⟩⟩⟩⟩⟩⟩⟩⟩⟩⟩⟩⟩⟩⟩⟩⟩⟩⟩⟩⟩⟩⟩⟩⟩⟩⟩⟩⟩⟩⟩⟩⟩⟩⟩⟩⟩⟩⟩⟩⟩⟩
theorem b_ts : ∀ e ∈ ts, bindOk e := fun _ h => nomatch h
theorem to_all : (gs.lfs.all fun p => ts.any fun e => e.f == p.1 && decide (e.d.name = p.2) && decide (e.d.at_ = (p.2, none)) && toB gs FT e) = true := by decide +kernel
theorem ho_all : (gs.hfs.all fun p => hs.any fun e => e.f == p.1 && decide (e.d.at_ = (p.2, none)) && hoB gs FT e) = true := by decide +kernel
theorem b_hs : ∀ e ∈ hs, bindOk e := fun _ h => nomatch h
theorem p_hs : ∀ e ∈ hs, plainD e.d := fun _ h => nomatch h
theorem ms_all : ∀ e ∈ es, e.lam = true → e ∈ ms := by
  refine fun e he => ?_
  have h : ∀ (l m : List FE), (l.filter (·.lam)) = m → ∀ e ∈ l, e.lam = true → e ∈ m := fun l m h e he hl => by rw [← h]; exact List.mem_filter.mpr ⟨he, hl⟩
  exact h es ms rfl e he
theorem p_ts : ∀ e ∈ ts, plainD e.d := fun _ h => nomatch h
theorem p_all : ∀ e ∈ es, plainD e.d := List.forall_mem_cons.mpr ⟨⟨fun _ => rfl, fun _ => rfl⟩, List.forall_mem_cons.mpr ⟨⟨fun _ => rfl, fun _ => rfl⟩, List.forall_mem_cons.mpr ⟨⟨fun _ => rfl, fun _ => rfl⟩, List.forall_mem_cons.mpr ⟨⟨fun _ => rfl, fun _ => rfl⟩, List.forall_mem_cons.mpr ⟨⟨fun _ => rfl, fun _ => rfl⟩, List.forall_mem_cons.mpr ⟨⟨fun _ => rfl, fun _ => rfl⟩, List.forall_mem_cons.mpr ⟨⟨fun _ => rfl, fun _ => rfl⟩, List.forall_mem_cons.mpr ⟨⟨fun _ => rfl, fun _ => rfl⟩, List.forall_mem_cons.mpr ⟨⟨fun _ => rfl, fun _ => rfl⟩, List.forall_mem_cons.mpr ⟨⟨fun _ => rfl, fun _ => rfl⟩, List.forall_mem_cons.mpr ⟨⟨fun _ => rfl, fun _ => rfl⟩, List.forall_mem_cons.mpr ⟨⟨fun _ => rfl, fun _ => rfl⟩, List.forall_mem_cons.mpr ⟨⟨fun _ => rfl, fun _ => rfl⟩, List.forall_mem_cons.mpr ⟨⟨fun _ => rfl, fun _ => rfl⟩, List.forall_mem_cons.mpr ⟨⟨fun _ => rfl, fun _ => rfl⟩, List.forall_mem_cons.mpr ⟨⟨fun _ => rfl, fun _ => rfl⟩, List.forall_mem_cons.mpr ⟨⟨fun _ => rfl, fun _ => rfl⟩, List.forall_mem_cons.mpr ⟨⟨fun _ => rfl, fun _ => rfl⟩, List.forall_mem_cons.mpr ⟨⟨fun _ => rfl, fun _ => rfl⟩, List.forall_mem_cons.mpr ⟨⟨fun _ => rfl, fun _ => rfl⟩, List.forall_mem_cons.mpr ⟨⟨fun _ => rfl, fun _ => rfl⟩, List.forall_mem_cons.mpr ⟨⟨fun _ => rfl, fun _ => rfl⟩, List.forall_mem_cons.mpr ⟨⟨fun _ => rfl, fun _ => rfl⟩, List.forall_mem_cons.mpr ⟨⟨fun _ => rfl, fun _ => rfl⟩, List.forall_mem_cons.mpr ⟨⟨fun _ => rfl, fun _ => rfl⟩, List.forall_mem_cons.mpr ⟨⟨fun _ => rfl, fun _ => rfl⟩, List.forall_mem_cons.mpr ⟨⟨fun _ => rfl, fun _ => rfl⟩, List.forall_mem_cons.mpr ⟨⟨fun _ => rfl, fun _ => rfl⟩, List.forall_mem_cons.mpr ⟨⟨fun _ => rfl, fun _ => rfl⟩, List.forall_mem_cons.mpr ⟨⟨fun _ => rfl, fun _ => rfl⟩, List.forall_mem_cons.mpr ⟨⟨fun _ => rfl, fun _ => rfl⟩, List.forall_mem_cons.mpr ⟨⟨fun _ => rfl, fun _ => rfl⟩, List.forall_mem_cons.mpr ⟨⟨fun _ => rfl, fun _ => rfl⟩, List.forall_mem_cons.mpr ⟨⟨fun _ => rfl, fun _ => rfl⟩, List.forall_mem_cons.mpr ⟨⟨fun _ => rfl, fun _ => rfl⟩, List.forall_mem_cons.mpr ⟨⟨fun _ => rfl, fun _ => rfl⟩, List.forall_mem_cons.mpr ⟨⟨fun _ => rfl, fun _ => rfl⟩, List.forall_mem_cons.mpr ⟨⟨fun _ => rfl, fun _ => rfl⟩, List.forall_mem_cons.mpr ⟨⟨fun _ => rfl, fun _ => rfl⟩, List.forall_mem_cons.mpr ⟨⟨fun _ => rfl, fun _ => rfl⟩, List.forall_mem_cons.mpr ⟨⟨fun _ => rfl, fun _ => rfl⟩, List.forall_mem_cons.mpr ⟨⟨fun _ => rfl, fun _ => rfl⟩, List.forall_mem_cons.mpr ⟨⟨fun _ => rfl, fun _ => rfl⟩, List.forall_mem_cons.mpr ⟨⟨fun _ => rfl, fun _ => rfl⟩, List.forall_mem_cons.mpr ⟨⟨fun _ => rfl, fun _ => rfl⟩, List.forall_mem_cons.mpr ⟨⟨fun _ => rfl, fun _ => rfl⟩, List.forall_mem_cons.mpr ⟨⟨fun _ => rfl, fun _ => rfl⟩, List.forall_mem_cons.mpr ⟨⟨fun _ => rfl, fun _ => rfl⟩, List.forall_mem_cons.mpr ⟨⟨fun _ => rfl, fun _ => rfl⟩, fun _ h => nomatch h⟩⟩⟩⟩⟩⟩⟩⟩⟩⟩⟩⟩⟩⟩⟩⟩⟩⟩⟩⟩⟩⟩⟩⟩⟩⟩⟩⟩⟩⟩⟩⟩⟩⟩⟩⟩⟩⟩⟩⟩⟩⟩⟩⟩⟩⟩⟩⟩⟩
end k04
end G

namespace G.k04
open PySem PySem.Spec PyProof.Rows L2
def loose0 : List PySem.Str := ["__name__", "LETTERS", "MOST_NAME", "THOUSAND", "is_integer", "is_within", "is_name", "is_tuple_of", "is_pair", "is_ticket", "is_limit", "are_limits", "GrainError", "NoElevator", "BadElevator", "BadText", "MOST_MEASURES", "MOST_DAYS", "MOST_LOTS", "MOST_ORDERS", "MOST_WEIGHT", "MOST_PRICE", "MOST_DIGITS", "MEASURES", "DRYER", "LOTS", "ORDERS", "STORING", "LOT", "ORDER"]
def loose1 : List PySem.Str := ["MISSING", "is_measures", "is_dryer", "is_lot", "is_order", "check_lots", "check_orders", "Elevator", "check_elevator", "changed", "with_lot", "with_order", "word_of", "line_of", "elevator_text", "integer_of", "integers_of", "pairs_of", "read_lot", "read_order", "read_head", "read_rows", "read_elevator", "_law_hand", "_law_draw", "_law_any", "_law_name", "_law_names", "_law_is", "_law_ticket"]
def loose2 : List PySem.Str := ["_law_stock", "_law_limits", "_law_text", "_law_made", "_law_fields", "_law_spec", "_law_is_read", "_law_ends", "_law_lines_right"]
def loose : List PySem.Str := loose0 ++ loose1 ++ loose2
abbrev R : PySem.W.OpenRow := PySem.W.OpenLaw.row rw
abbrev lawAt : Nat := 72
abbrev hk : PySem.W.Hook := hookGG 6 gs fns (ms.map (·.d.at_))
def ob (s : PySem.W.SharedT) : AlG := obsGG 6 gs fns (ms.map (·.d.at_)) (HandSHeadRun.getT s)
theorem ob_eq (s : PySem.W.SharedT) : ob s = hk.obs s.abs := obsGG_eq (HandSHeadRun.getT_eq s)
def obK (s : PySem.W.SharedT) : PySem.W.Frag := He.frT (HandSHeadRun.getT s) (asG (HandSHeadRun.getT s) 6)
theorem run1 (w : World) (os : OsState) : (HandSHeadRun.endF (HandSHeadRun.stepQ (HandSHeadRun.denQ HandSHeadRun.tabQ) R.prog w) 12000 R.prog w os).map (fun s => HandSHeadRun.looksF R.prog (PySem.W.boot_heap w.params) s.abs) = some true := by
  kernel_rfl
theorem run2 (w : World) (os : OsState) : (HandSHeadRun.endF (HandSHeadRun.stepQ (HandSHeadRun.denQ HandSHeadRun.tabQ) R.prog w) 12000 R.prog w os).map (fun s => HandSHeadRun.seenQ (PySem.W.view R.prog [lawAt]) loose (importedModules R.prog.main.body) (fun s => PySem.W.xlAt (PySem.W.view R.prog [lawAt]) [] s && PySem.W.recOk R.toRowW.records s) s.abs) = some (PySem.W.openGood (PySem.W.view R.prog [lawAt]) loose) := by
  kernel_rfl
theorem run3 (w : World) (os : OsState) : (HandSHeadRun.endF (HandSHeadRun.stepQ (HandSHeadRun.denQ HandSHeadRun.tabQ) R.prog w) 12000 R.prog w os).map (fun s => gB gs (obK s) && tabG (ms.map (·.d.at_)) (obK s) (HandSHeadRun.getT s)) = some true := by
  kernel_rfl
theorem run4 (w : World) (os : OsState) : (HandSHeadRun.endF (HandSHeadRun.stepQ (HandSHeadRun.denQ HandSHeadRun.tabQ) R.prog w) 12000 R.prog w os).map (fun s => He.obsD [] fns (obK s)) = some (He.valD fns) := by
  kernel_rfl
theorem run (w : World) : HandSHeadRun.RunEq R (PySem.W.view R.prog [lawAt]) hk ob 12000 loose w := by
  intro os
  have h1 := run1 w os
  have h2 := run2 w os
  have h3 := run3 w os
  have h4 := run4 w os
  generalize HandSHeadRun.endF (HandSHeadRun.stepQ (HandSHeadRun.denQ HandSHeadRun.tabQ) R.prog w) 12000 R.prog w os = o at h1 h2 h3 h4 ⊢
  exact map4 h1 h2 h3 h4
end G.k04

namespace G.k04
open PySem PySem.Spec PyProof.Rows L2
abbrev lvl : Nat := 120
theorem facts {P : Program} {w : World} {K : PySem.W.Frag} {h : Heap} {mg : Str → Option Value} {f : Addr} (X : K.In h) (N : h.Ns mainGlobals mg) (hfa : mg ("law" : Str) = some (.ref f)) (c : SaysG gs fns (ms.map (·.d.at_)) K h) :
    ∃ fd : FuncData, (∀ (s : Shared) (v : Value), BindsTo s fd ⟨[v], []⟩ [("script", v)]) ∧ ∀ base : Heap, K.In base → base.Ns mainGlobals mg → (∀ p ∈ (ms.map (·.d.at_)).map (He.cT K), LamX.TabB base mg p.1 p.2) →
      FnOk P w K mg base (L2N.CX P w) lvl f fd ["script"] (@spOf (tbOf K ms) K ((CS2 FT lvl).fn F.law)) := by
  letI tb : Tb := tbOf K ms
  have D : Gf gs FT es K := gf_of c.d (fun e he => List.mem_map_of_mem (List.mem_append_left _ he)) ex_all fe_all b_all p_all
  have Dt : Gt gs FT K mg := gt_of c.d (fun e he => List.mem_map_of_mem (List.mem_append_right _ (List.mem_append_left _ he))) (gB_lfs X N c.g) to_all b_ts p_ts (fun e he => List.mem_map_of_mem (List.mem_append_right _ (List.mem_append_right _ he))) (gB_hfs X N c.g) ho_all b_hs p_hs
  have S : Gs gs K mg := gB_ok X N c.g
  have he : e_law ∈ es := law_mem
  obtain ⟨fb, fd, F1, B1⟩ := D.ok e_law he
  have e := hfa.symm.trans (S.gl F.law "law" law_fn)
  cases e
  refine ⟨fd, fun s v => FunD.bindsA (ps := ["script"]) F1 (fun _ _ _ _ _ _ us hl => b_law _ _ _ _ _ _ us hl) s [v] rfl, fun base _ _ hT => ?_⟩
  exact fn_lvl S D Dt (gtb_of c ms_all hT) lvl e_law he fd F1
theorem base : Base FT := by
  constructor <;> rfl
theorem hlaw : ∀ (ns : List Int) (v : G.PV) (μ : G.PM), ns.length ≤ 63 → (∀ z ∈ ns, Builtin.Int.intBits z ≤ 1048576) → G.seqOf μ v = some (ns.map .int) →
      (G.CS2 G.k04.FT G.k04.lvl).fn G.F.law [v] μ (fun r _ => r = .bl true) (fun _ _ => False) := fun ns v μ _ hb hv =>
  haveI := base
  sp_law (k := 97) hv hb
end G.k04
open PySem PySem.W PySem.Calls PyProof.Rows
set_option maxHeartbeats 0 in
theorem PySem.Challenge.cw_grainlines_k04_whole_elevator_texts_holds : PySem.Challenge.rw_grainlines_k04_whole_elevator_texts.Holds := by
  w_on; o_law
  refine HandSHeadRun.head_any (r := OpenLaw.row G.k04.rw) (q := view (OpenLaw.row G.k04.rw).prog [G.k04.lawAt]) (H := G.k04.hk) (ob := G.k04.ob) (M := 12000) (loose := G.k04.loose) (d := HandSHeadRun.topDef (OpenLaw.row G.k04.rw).prog G.k04.lawAt) (kwd := []) G.k04.ob_eq
    (by kernel_rfl) (fun s => by kernel_rfl) G.k04.run (by kernel_rfl) (by kernel_rfl) (by kernel_rfl) (by rfl) (by first | assumption | decide +kernel) (by decide +kernel) ⟨rfl, rfl, rfl, rfl, rfl, by decide +kernel⟩ ?hw ?hc
  case hw => w_witness2
  case hc =>
    refine G.walk_G (l := G.k04.rw) (n := 63) (k := G.k04.lvl) (x := "script") (ms := G.k04.ms) (FT := G.k04.FT) (f := G.F.law) rfl (by decide) (by kernel_rfl) ⟨rfl, by decide, by decide⟩ ?F
    intro w mg fa h Y N hmg0
    obtain ⟨K, KX, c⟩ := Y
    have hmg : mg ("law" : PySem.Str) = some (.ref fa) := by
      have e : (HandSHeadRun.topDef (OpenLaw.row G.k04.rw).prog G.k04.lawAt).name = ("law" : PySem.Str) := by kernel_rfl
      rw [← e]
      exact hmg0
    obtain ⟨fd, hb, hF⟩ := G.k04.facts (P := G.k04.rw.prog) (w := w) KX N hmg c
    exact ⟨K, fd, KX, fun e he => ⟨c.empty _ (List.mem_map_of_mem he), c.out _ (List.mem_map_of_mem he), c.hd _ (List.mem_map_of_mem he)⟩, hb, G.k04.hlaw, hF⟩
